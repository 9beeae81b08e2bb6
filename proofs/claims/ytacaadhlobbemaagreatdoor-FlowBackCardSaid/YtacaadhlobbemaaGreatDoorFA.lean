/- Contracts of the functions that the laws reach: part of the proof. -/
import Derived.Test.YtacaadhlobbemaaGreatDoorLayT
import Derived.Test.YtacaadhlobbemaaGreatDoorProg
import Derived.Test.YtacaadhlobbemaaGreatDoorSxB
import Derived.Test.YtacaadhlobbemaaGreatDoorShelf
import Derived.Test.YtacaadhlobbemaaGreatDoorLay
import Derived.KernelRfl
set_option linter.unusedSimpArgs false
set_option linter.unusedVariables false
set_option maxRecDepth 20000
namespace Go.Proofs.YtacaadhlobbemaaGreatDoor
open Go.Sx
abbrev I : Bool × Sch := (false, .int .i64)
abbrev Bo : Bool × Sch := (false, .bool)
abbrev aI : AK := .val false (.int .i64)
abbrev aB : AK := .val false .bool
abbrev sI : Sch := .int .i64
abbrev sPt : Sch := .prod sI sI
abbrev Pr : Bool × Sch := (true, .prod sI sI)
abbrev aP : AK := .val true sPt
abbrev G0 : Gam := []
theorem g0 : GamOk Tryz.prog G0 := .nil _
theorem mixed : Tryz.prog.follows .mixedOrders = true := by kernel_rfl
abbrev na {α : Type} : α → Nat → Option Ann := fun _ _ => none
abbrev ann0 (A : Ann) : Nat → Option Ann := fun k => if k = 0 then some A else none
def cWhen : Con := { args := [aB, aI], ress := [I], owns := [], pre := fun _ => [], spec := fun (b, e, _) => (bif b then e else 0, ()) }
theorem vc105 : ∀ (b : Bool) (e : Int), wpF Tryz.prog G0 (na ()) Tryz.f105 cWhen (b, e, ()) = ((b = true → e = bif b then e else (0 : Int)) ∧ (b = false → (0 : Int) = bif b then e else (0 : Int))) := by
  intros
  kernel_rfl
theorem wp105 (b : Bool) (e : Int) : wpF Tryz.prog G0 (na ()) Tryz.f105 cWhen (b, e, ()) := by
  refine (vc105 b e).mpr ?_
  cases b <;> simp
theorem ok105 : Ok Tryz.prog 105 cWhen := ok_of_wp mixed g0 (by kernel_rfl) (by kernel_rfl) na fun xx => wp105 xx.1 xx.2.1
abbrev G1 : Gam := (105, cWhen) :: G0
theorem g1 : GamOk Tryz.prog G1 := .cons ok105 g0
def withinS (n lo hi : Int) : Int := bif decide (n < lo) || decide (hi < n) then 3 else 0
def cWithin : Con := { args := [aI, aI, aI], ress := [I], owns := [], pre := fun _ => [], spec := fun (n, lo, hi, _) => (withinS n lo hi, ()) }
theorem vc103 : ∀ (n lo hi : Int), wpF Tryz.prog G1 (na ()) Tryz.f103 cWithin (n, lo, hi, ()) = ((bif bif decide (n < lo) then true else decide (hi < n) then (3 : Int) else (0 : Int)) = withinS n lo hi) := by
  intros
  kernel_rfl
theorem wp103 (n lo hi : Int) : wpF Tryz.prog G1 (na ()) Tryz.f103 cWithin (n, lo, hi, ()) := by
  refine (vc103 n lo hi).mpr ?_
  unfold withinS; cases decide (n < lo) <;> rfl
theorem ok103 : Ok Tryz.prog 103 cWithin := ok_of_wp mixed g1 (by kernel_rfl) (by kernel_rfl) na fun xx => wp103 xx.1 xx.2.1 xx.2.2.1
abbrev G2 : Gam := (103, cWithin) :: G1
theorem g2 : GamOk Tryz.prog G2 := .cons ok103 g1
def firstS : List Int → Int
  | [] => 0
  | x :: l => if x = 0 then firstS l else x
theorem firstS_drop {l : List Int} {k : Nat} (h : k < l.length) : firstS (l.drop k) = if l.getD k 0 = 0 then firstS (l.drop (k + 1)) else l.getD k 0 := by
  rw [List.drop_eq_getElem_cons h]
  simp [firstS, List.getD_eq_getElem?_getD, h]
def cFirst : Con := { args := [.val false (.list 26 sI)], ress := [I], owns := [], pre := fun (l, _) => [l.length ≤ 1000000], spec := fun (l, _) => (firstS l, ()) }
abbrev annFirst (l : List Int) : Ann := { X := Nat, σ := fun k => ⟨1, [(5, .one (.sl 0)), (6, .one (.int .i64 l.length)), (7, .one (.int .i64 k))], [(0, .imm 26 sI l)]⟩, inv := fun k => k ≤ l.length ∧ firstS l = firstS (l.drop k), mu := fun k => l.length - k }
theorem vc102 : ∀ (l : List Int), wpF Tryz.prog G2 (ann0 (annFirst l)) Tryz.f102 cFirst (l, ()) = (List.length l ≤ (1000000 : Nat) → ∃ (x : Nat), ((↑(List.length l) : Int) = (↑(List.length l) : Int) ∧ (0 : Int) = (↑x : Int) ∧ l = l) ∧ (x ≤ List.length l ∧ firstS l = firstS (List.drop x l)) ∧ ∀ (x : Nat), x ≤ List.length l ∧ firstS l = firstS (List.drop x l) → (decide ((↑x : Int) < (↑(List.length l) : Int)) = true → (((0 : Int) ≤ (↑x : Int) ∧ (↑x : Int) < (↑(List.length l) : Int)) ∧ (0 : Int) ≤ (↑x : Int) ∧ (↑x : Int) < (↑(List.length l) : Int)) ∧ ((List.getD l x (0 : Int) != (0 : Int)) = true → List.getD l x (0 : Int) = firstS l) ∧ ((List.getD l x (0 : Int) != (0 : Int)) = false → ((-9223372036854775808 : Int) ≤ (↑x : Int) + (1 : Int) ∧ (↑x : Int) + (1 : Int) ≤ (9223372036854775807 : Int)) ∧ ∃ (y : Nat), ((↑(List.length l) : Int) = (↑(List.length l) : Int) ∧ (↑x : Int) + (1 : Int) = (↑y : Int) ∧ l = l) ∧ (y ≤ List.length l ∧ firstS l = firstS (List.drop y l)) ∧ List.length l - y < List.length l - x)) ∧ (decide ((↑x : Int) < (↑(List.length l) : Int)) = false → (0 : Int) = firstS l)) := by
  intros
  kernel_rfl
theorem wp102 (l : List Int) : wpF Tryz.prog G2 (ann0 (annFirst l)) Tryz.f102 cFirst (l, ()) := by
  refine (vc102 l).mpr ?_
  intro hb
  refine ⟨(0 : Nat), ⟨rfl, rfl, rfl⟩, ⟨Nat.zero_le _, rfl⟩, fun (k : Nat) hk => ⟨fun h => ?_, fun h => ?_⟩⟩
  · have hlt : k < l.length := by simpa using h
    have hd := firstS_drop hlt
    refine ⟨by omega, fun h1 => ?_, fun h1 => ⟨by omega, (k + 1 : Nat), ⟨rfl, by simp, rfl⟩, ⟨by omega, ?_⟩, by omega⟩⟩
    · have h2 : ¬ l.getD k 0 = 0 := by simpa using h1
      rw [hk.2, hd, if_neg h2]
    · have h2 : l.getD k 0 = 0 := by simpa using h1
      rw [hk.2, hd, if_pos h2]
  · have hlt : ¬ k < l.length := by simpa using h
    have : k = l.length := by omega
    rw [hk.2, this, List.drop_length]; rfl
theorem ok102 : Ok Tryz.prog 102 cFirst := ok_of_wp mixed g2 (by kernel_rfl) (by kernel_rfl) (fun xx => ann0 (annFirst xx.1)) fun xx => wp102 xx.1
abbrev G3 : Gam := (102, cFirst) :: G2
theorem g3 : GamOk Tryz.prog G3 := .cons ok102 g2
def cCheckPower : Con := { args := [aI], ress := [I], owns := [], pre := fun _ => [], spec := fun (n, _) => (withinS n (-1000) 1000, ()) }
theorem vc106 : ∀ (n : Int), wpF Tryz.prog G3 (na ()) Tryz.f106 cCheckPower (n, ()) = (withinS n (-1000 : Int) (1000 : Int) = withinS n (-1000 : Int) (1000 : Int)) := by
  intros
  kernel_rfl
theorem wp106 (n : Int) : wpF Tryz.prog G3 (na ()) Tryz.f106 cCheckPower (n, ()) := by
  refine (vc106 n).mpr ?_
  rfl
theorem ok106 : Ok Tryz.prog 106 cCheckPower := ok_of_wp mixed g3 (by kernel_rfl) (by kernel_rfl) na fun xx => wp106 xx.1
abbrev G4 : Gam := (106, cCheckPower) :: G3
theorem g4 : GamOk Tryz.prog G4 := .cons ok106 g3
def gcdS (a b : Int) : Int := Int.gcd a b
def cDivisor : Con := { args := [aI, aI], ress := [I], owns := [], pre := fun (n, den, _) => [-9200000000000000000 ≤ n ∧ n ≤ 9200000000000000000, 0 ≤ den ∧ den ≤ 9200000000000000000], spec := fun (n, den, _) => (gcdS n den, ()) }
abbrev annDiv (n den : Int) : Ann := { X := Nat × Nat, σ := fun (a, b) => ⟨0, [(5, .one (.int .i64 a)), (6, .one (.int .i64 b))], []⟩, inv := fun (a, b) => a ≤ 9200000000000000000 ∧ b ≤ 9200000000000000000 ∧ Nat.gcd a b = Int.gcd n den, mu := fun (_, b) => b }
theorem vc158 : ∀ (n den : Int), wpF Tryz.prog G4 (ann0 (annDiv n den)) Tryz.f158 cDivisor (n, den, ()) = ((-9200000000000000000 : Int) ≤ n ∧ n ≤ (9200000000000000000 : Int) → (0 : Int) ≤ den ∧ den ≤ (9200000000000000000 : Int) → ((-9223372036854775808 : Int) ≤ (0 : Int) - n ∧ (0 : Int) - n ≤ (9223372036854775807 : Int)) ∧ ∃ (x : Nat × Nat), (max n ((0 : Int) - n) = (↑x.1 : Int) ∧ den = (↑x.2 : Int)) ∧ (x.fst ≤ (9200000000000000000 : Nat) ∧ x.snd ≤ (9200000000000000000 : Nat) ∧ Nat.gcd x.fst x.snd = Int.gcd n den) ∧ ∀ (x : Nat × Nat), x.fst ≤ (9200000000000000000 : Nat) ∧ x.snd ≤ (9200000000000000000 : Nat) ∧ Nat.gcd x.fst x.snd = Int.gcd n den → (((↑x.2 : Int) != (0 : Int)) = true → ((↑x.2 : Int) = (0 : Int) → False) ∧ ∃ (y : Nat × Nat), ((↑x.2 : Int) = (↑y.1 : Int) ∧ Int.tmod (↑x.1 : Int) (↑x.2 : Int) = (↑y.2 : Int)) ∧ (y.fst ≤ (9200000000000000000 : Nat) ∧ y.snd ≤ (9200000000000000000 : Nat) ∧ Nat.gcd y.fst y.snd = Int.gcd n den) ∧ y.2 < x.2) ∧ (((↑x.2 : Int) != (0 : Int)) = false → (↑x.1 : Int) = gcdS n den)) := by
  intros
  kernel_rfl
theorem wp158 (n den : Int) : wpF Tryz.prog G4 (ann0 (annDiv n den)) Tryz.f158 cDivisor (n, den, ()) := by
  refine (vc158 n den).mpr ?_
  intro h1 h2
  refine ⟨by omega, (n.natAbs, den.natAbs), ⟨by simp only; omega, by simp only; omega⟩, ⟨by simp only; omega, by simp only; omega, rfl⟩, fun (x : Nat × Nat) hx => ⟨fun h => ?_, fun h => ?_⟩⟩
  · obtain ⟨a, b⟩ := x
    obtain ⟨i1, i2, i3⟩ := hx
    have hb : b ≠ 0 := by simpa using h
    have hlt := Nat.mod_lt a (Nat.pos_of_ne_zero hb)
    dsimp only at *
    refine ⟨by omega, (b, a % b), ⟨rfl, (Int.ofNat_tmod a b).symm⟩, ⟨i2, by omega, ?_⟩, hlt⟩
    rw [← i3]
    show Nat.gcd b (a % b) = Nat.gcd a b
    rw [Nat.gcd_comm, ← Nat.gcd_rec, Nat.gcd_comm]
  · obtain ⟨a, b⟩ := x
    obtain ⟨i1, i2, i3⟩ := hx
    dsimp only at *
    have hb : b = 0 := by simpa using h
    subst hb
    simp only [gcdS, ← i3, Nat.gcd_zero_right]
theorem ok158 : Ok Tryz.prog 158 cDivisor := ok_of_wp mixed g4 (by kernel_rfl) (by kernel_rfl) (fun xx => ann0 (annDiv xx.1 xx.2.1)) fun xx => wp158 xx.1 xx.2.1
abbrev G5 : Gam := (158, cDivisor) :: G4
theorem g5 : GamOk Tryz.prog G5 := .cons ok158 g4
def cHas : Con := { args := [aP, aI], ress := [Bo], owns := [], pre := fun _ => [], spec := fun ((lo, hi), n, _) => (decide (lo ≤ n) && decide (n ≤ hi), ()) }
theorem vc99 : ∀ (x : Int × Int) (n : Int), wpF Tryz.prog G5 (na ()) Tryz.f99 cHas (x, n, ()) = ((bif decide (x.fst ≤ n) then decide (n ≤ x.snd) else false) = (decide (x.fst ≤ n) && decide (n ≤ x.snd))) := by
  intros
  kernel_rfl
theorem wp99 (x : Int × Int) (n : Int) : wpF Tryz.prog G5 (na ()) Tryz.f99 cHas (x, n, ()) := by
  refine (vc99 x n).mpr ?_
  cases decide (x.1 ≤ n) <;> rfl
theorem ok99 : Ok Tryz.prog 99 cHas := ok_of_wp mixed g5 (by kernel_rfl) (by kernel_rfl) na fun xx => wp99 xx.1 xx.2.1
abbrev G6 : Gam := (99, cHas) :: G5
theorem g6 : GamOk Tryz.prog G6 := .cons ok99 g5
def endsS (l : List (Int × Int)) : Int × Int := ((l.getD 0 (0, 0)).1, (l.getD (l.length - 1) (0, 0)).1)
def cEnds : Con := { args := [.val false (.list 176 sPt)], ress := [Pr], owns := [], pre := fun (l, _) => [0 < l.length, l.length ≤ 1000000], spec := fun (l, _) => (endsS l, ()) }
theorem vc100 : ∀ (l : List (Int × Int)), wpF Tryz.prog G6 (na ()) Tryz.f100 cEnds (l, ()) = ((0 : Nat) < List.length l → List.length l ≤ (1000000 : Nat) → (((0 : Int) ≤ (0 : Int) ∧ (0 : Int) < (↑(List.length l) : Int)) ∧ ((0 : Int) ≤ (0 : Int) ∧ (0 : Int) < (↑(List.length l) : Int)) ∧ ((-9223372036854775808 : Int) ≤ (↑(List.length l) : Int) - (1 : Int) ∧ (↑(List.length l) : Int) - (1 : Int) ≤ (9223372036854775807 : Int)) ∧ ((0 : Int) ≤ (↑(List.length l) : Int) - (1 : Int) ∧ (↑(List.length l) : Int) - (1 : Int) < (↑(List.length l) : Int)) ∧ (0 : Int) ≤ (↑(List.length l) : Int) - (1 : Int) ∧ (↑(List.length l) : Int) - (1 : Int) < (↑(List.length l) : Int)) ∧ ((List.getD l (0 : Nat) ((0 : Int), (0 : Int))).fst, (List.getD l (Int.toNat ((↑(List.length l) : Int) - (1 : Int))) ((0 : Int), (0 : Int))).fst) = endsS l) := by
  intros
  kernel_rfl
theorem wp100 (l : List (Int × Int)) : wpF Tryz.prog G6 (na ()) Tryz.f100 cEnds (l, ()) := by
  refine (vc100 l).mpr ?_
  intro h1 h2
  refine ⟨by omega, ?_⟩
  have e : ((l.length : Int) - 1).toNat = l.length - 1 := by omega
  simp only [endsS, e] <;> rfl
theorem ok100 : Ok Tryz.prog 100 cEnds := ok_of_wp mixed g6 (by kernel_rfl) (by kernel_rfl) na fun xx => wp100 xx.1
abbrev G7 : Gam := (100, cEnds) :: G6
theorem g7 : GamOk Tryz.prog G7 := .cons ok100 g6
def lowestS (n d : Int) : Int × Int := (n.tdiv (gcdS n d), d.tdiv (gcdS n d))
theorem gcdS_pos {n d : Int} (h : 0 < d) : 0 < gcdS n d := by
  unfold gcdS
  have := Nat.gcd_pos_of_pos_right (m := n.natAbs) (n := d.natAbs) (by omega)
  unfold Int.gcd
  omega
theorem gcdS_le {n d : Int} (h : 0 < d) : gcdS n d ≤ d := by
  unfold gcdS Int.gcd
  have := Nat.le_of_dvd (by omega) (Nat.gcd_dvd_right n.natAbs d.natAbs)
  omega
theorem tdiv_bd {a g B : Int} (h : -B ≤ a ∧ a ≤ B) : -B ≤ a.tdiv g ∧ a.tdiv g ≤ B := by
  have h1 : (a.tdiv g).natAbs ≤ a.natAbs := by rw [Int.natAbs_tdiv]; exact Nat.div_le_self _ _
  omega
theorem tdiv_gcd_pos {n d : Int} (h : 0 < d) : 0 < d.tdiv (gcdS n d) := by
  have h1 := gcdS_pos (n := n) h
  have h2 : gcdS n d ∣ d := Int.gcd_dvd_right n d
  obtain ⟨k, hk⟩ := h2
  have h3 : d.tdiv (gcdS n d) = k := by
    rw [Int.tdiv_eq_ediv_of_nonneg (by omega)]
    exact Int.ediv_eq_of_eq_mul_right (by omega) hk
  rw [h3]
  rcases Int.lt_or_le 0 k with hk' | hk'
  · exact hk'
  · have := Int.mul_nonpos_of_nonneg_of_nonpos (Int.le_of_lt h1) hk'
    omega
theorem mul_bd {a b A B : Int} (ha : -A ≤ a ∧ a ≤ A) (hb : -B ≤ b ∧ b ≤ B) : -(A * B) ≤ a * b ∧ a * b ≤ A * B := by
  have h1 : (a * b).natAbs ≤ A.natAbs * B.natAbs := by rw [Int.natAbs_mul]; exact Nat.mul_le_mul (by omega) (by omega)
  have h2 : ((A.natAbs * B.natAbs : Nat) : Int) = A * B := by
    rw [Int.natCast_mul]
    congr 1 <;> omega
  omega
def cLowest : Con := { args := [aI, aI], ress := [Pr], owns := [], pre := fun (n, den, _) => [-9200000000000000000 ≤ n ∧ n ≤ 9200000000000000000, 0 < den ∧ den ≤ 9200000000000000000], spec := fun (n, den, _) => (lowestS n den, ()) }
theorem vc113 : ∀ (n den : Int), wpF Tryz.prog G7 (na ()) Tryz.f113 cLowest (n, den, ()) = ((-9200000000000000000 : Int) ≤ n ∧ n ≤ (9200000000000000000 : Int) → (0 : Int) < den ∧ den ≤ (9200000000000000000 : Int) → (((-9200000000000000000 : Int) ≤ n ∧ n ≤ (9200000000000000000 : Int)) ∧ (0 : Int) ≤ den ∧ den ≤ (9200000000000000000 : Int)) ∧ ((gcdS n den = (0 : Int) → False) ∧ ((-9223372036854775808 : Int) ≤ Int.tdiv n (gcdS n den) ∧ Int.tdiv n (gcdS n den) ≤ (9223372036854775807 : Int)) ∧ (gcdS n den = (0 : Int) → False) ∧ (-9223372036854775808 : Int) ≤ Int.tdiv den (gcdS n den) ∧ Int.tdiv den (gcdS n den) ≤ (9223372036854775807 : Int)) ∧ (Int.tdiv n (gcdS n den), Int.tdiv den (gcdS n den)) = lowestS n den) := by
  intros
  kernel_rfl
theorem wp113 (n den : Int) : wpF Tryz.prog G7 (na ()) Tryz.f113 cLowest (n, den, ()) := by
  refine (vc113 n den).mpr ?_
  intro h1 h2
  have hg := gcdS_pos (n := n) h2.1
  have b1 := tdiv_bd (g := gcdS n den) (B := 9200000000000000000) ⟨by omega, h1.2⟩
  have b2 := tdiv_bd (a := den) (g := gcdS n den) (B := 9200000000000000000) ⟨by omega, h2.2⟩
  exact ⟨by omega, ⟨by omega, by omega, by omega, by omega⟩, rfl⟩
theorem ok113 : Ok Tryz.prog 113 cLowest := ok_of_wp mixed g7 (by kernel_rfl) (by kernel_rfl) na fun xx => wp113 xx.1 xx.2.1
abbrev G8 : Gam := (113, cLowest) :: G7
theorem g8 : GamOk Tryz.prog G8 := .cons ok113 g7
def plusS (x y : Int × Int) : Int × Int := lowestS (x.1 * (y.2.tdiv (gcdS x.2 y.2)) + y.1 * (x.2.tdiv (gcdS x.2 y.2))) (x.2.tdiv (gcdS x.2 y.2) * y.2)
def ratV (x : Int × Int) : Prop := 0 < x.2 ∧ x.2 ≤ 281474976710656 ∧ -(8192 * x.2) ≤ x.1 ∧ x.1 ≤ 8192 * x.2
def lcmS (x y : Int × Int) : Int := x.2.tdiv (gcdS x.2 y.2) * y.2
def cPlus : Con := { args := [aP, aP], ress := [Pr], owns := [], pre := fun (x, y, _) => [ratV x, ratV y, lcmS x y ≤ 281474976710656], spec := fun (x, y, _) => (plusS x y, ()) }
theorem mul_rng {a q B : Int} (hq : 0 ≤ q) (h : -B ≤ a ∧ a ≤ B) : -(B * q) ≤ a * q ∧ a * q ≤ B * q := by
  refine ⟨?_, Int.mul_le_mul_of_nonneg_right h.2 hq⟩
  have := Int.mul_le_mul_of_nonneg_right h.1 hq
  rwa [Int.neg_mul] at this
theorem plus_bd {x y : Int × Int} (hx : ratV x) (hy : ratV y) (hl : lcmS x y ≤ 281474976710656) : let g := gcdS x.2 y.2
    (0 < g ∧ g ≤ y.2) ∧ (0 < x.2.tdiv g ∧ x.2.tdiv g ≤ x.2) ∧ (0 < y.2.tdiv g ∧ y.2.tdiv g ≤ y.2) ∧ (0 < x.2.tdiv g * y.2 ∧ x.2.tdiv g * y.2 ≤ 281474976710656) ∧
    (-2305843009213693952 ≤ x.1 * y.2.tdiv g ∧ x.1 * y.2.tdiv g ≤ 2305843009213693952) ∧ (-2305843009213693952 ≤ y.1 * x.2.tdiv g ∧ y.1 * x.2.tdiv g ≤ 2305843009213693952) := by
  intro g
  obtain ⟨x1, x2, x3, x4⟩ := hx
  obtain ⟨y1, y2, y3, y4⟩ := hy
  have hg : 0 < g := gcdS_pos y1
  have hgy : g ≤ y.2 := gcdS_le y1
  have ex : x.2.tdiv g * g = x.2 := Int.tdiv_mul_cancel (Int.gcd_dvd_left x.2 y.2)
  have ey : y.2.tdiv g * g = y.2 := Int.tdiv_mul_cancel (Int.gcd_dvd_right x.2 y.2)
  have py : 0 < y.2.tdiv g := tdiv_gcd_pos y1
  have px : 0 < x.2.tdiv g := by
    have := tdiv_gcd_pos (n := y.2) x1
    rwa [show gcdS y.2 x.2 = g from by show gcdS y.2 x.2 = gcdS x.2 y.2; unfold gcdS; rw [Int.gcd_comm]] at this
  have bx := (tdiv_bd (a := x.2) (g := g) (B := x.2) ⟨by omega, Int.le_refl _⟩).2
  have by_ := (tdiv_bd (a := y.2) (g := g) (B := y.2) ⟨by omega, Int.le_refl _⟩).2
  have hL : x.2.tdiv g * y.2 ≤ 281474976710656 := hl
  have hLp := Int.mul_pos px y1
  have e1 : x.2 * y.2.tdiv g = x.2.tdiv g * y.2 := by
    have : x.2.tdiv g * g * y.2.tdiv g = x.2.tdiv g * (y.2.tdiv g * g) := by rw [Int.mul_assoc, Int.mul_comm g]
    rwa [ex, ey] at this
  have m1 := mul_rng (Int.le_of_lt py) ⟨x3, x4⟩
  have m2 := mul_rng (Int.le_of_lt px) ⟨y3, y4⟩
  rw [Int.mul_assoc, e1] at m1
  rw [Int.mul_assoc, Int.mul_comm y.2] at m2
  refine ⟨⟨hg, hgy⟩, ⟨px, bx⟩, ⟨py, by_⟩, ⟨hLp, hL⟩, by omega, by omega⟩
theorem vc109 : ∀ (x y : Int × Int), wpF Tryz.prog G8 (na ()) Tryz.f109 cPlus (x, y, ()) = (ratV x → ratV y → lcmS x y ≤ (281474976710656 : Int) → (((-9200000000000000000 : Int) ≤ x.snd ∧ x.snd ≤ (9200000000000000000 : Int)) ∧ (0 : Int) ≤ y.snd ∧ y.snd ≤ (9200000000000000000 : Int)) ∧ ((gcdS x.snd y.snd = (0 : Int) → False) ∧ ((-9223372036854775808 : Int) ≤ Int.tdiv y.snd (gcdS x.snd y.snd) ∧ Int.tdiv y.snd (gcdS x.snd y.snd) ≤ (9223372036854775807 : Int)) ∧ ((-9223372036854775808 : Int) ≤ x.fst * Int.tdiv y.snd (gcdS x.snd y.snd) ∧ x.fst * Int.tdiv y.snd (gcdS x.snd y.snd) ≤ (9223372036854775807 : Int)) ∧ (gcdS x.snd y.snd = (0 : Int) → False) ∧ ((-9223372036854775808 : Int) ≤ Int.tdiv x.snd (gcdS x.snd y.snd) ∧ Int.tdiv x.snd (gcdS x.snd y.snd) ≤ (9223372036854775807 : Int)) ∧ ((-9223372036854775808 : Int) ≤ y.fst * Int.tdiv x.snd (gcdS x.snd y.snd) ∧ y.fst * Int.tdiv x.snd (gcdS x.snd y.snd) ≤ (9223372036854775807 : Int)) ∧ ((-9223372036854775808 : Int) ≤ x.fst * Int.tdiv y.snd (gcdS x.snd y.snd) + y.fst * Int.tdiv x.snd (gcdS x.snd y.snd) ∧ x.fst * Int.tdiv y.snd (gcdS x.snd y.snd) + y.fst * Int.tdiv x.snd (gcdS x.snd y.snd) ≤ (9223372036854775807 : Int)) ∧ (gcdS x.snd y.snd = (0 : Int) → False) ∧ ((-9223372036854775808 : Int) ≤ Int.tdiv x.snd (gcdS x.snd y.snd) ∧ Int.tdiv x.snd (gcdS x.snd y.snd) ≤ (9223372036854775807 : Int)) ∧ ((-9223372036854775808 : Int) ≤ Int.tdiv x.snd (gcdS x.snd y.snd) * y.snd ∧ Int.tdiv x.snd (gcdS x.snd y.snd) * y.snd ≤ (9223372036854775807 : Int)) ∧ ((-9200000000000000000 : Int) ≤ x.fst * Int.tdiv y.snd (gcdS x.snd y.snd) + y.fst * Int.tdiv x.snd (gcdS x.snd y.snd) ∧ x.fst * Int.tdiv y.snd (gcdS x.snd y.snd) + y.fst * Int.tdiv x.snd (gcdS x.snd y.snd) ≤ (9200000000000000000 : Int)) ∧ (0 : Int) < Int.tdiv x.snd (gcdS x.snd y.snd) * y.snd ∧ Int.tdiv x.snd (gcdS x.snd y.snd) * y.snd ≤ (9200000000000000000 : Int)) ∧ ((lowestS (x.fst * Int.tdiv y.snd (gcdS x.snd y.snd) + y.fst * Int.tdiv x.snd (gcdS x.snd y.snd)) (Int.tdiv x.snd (gcdS x.snd y.snd) * y.snd)).fst, (lowestS (x.fst * Int.tdiv y.snd (gcdS x.snd y.snd) + y.fst * Int.tdiv x.snd (gcdS x.snd y.snd)) (Int.tdiv x.snd (gcdS x.snd y.snd) * y.snd)).snd) = plusS x y) := by
  intros
  kernel_rfl
theorem wp109 (x y : Int × Int) : wpF Tryz.prog G8 (na ()) Tryz.f109 cPlus (x, y, ()) := by
  refine (vc109 x y).mpr ?_
  intro hx hy hl
  have hb := plus_bd hx hy hl
  obtain ⟨x1, x2, x3, x4⟩ := hx
  obtain ⟨y1, y2, y3, y4⟩ := hy
  dsimp only at hb
  obtain ⟨b1, b2, b3, b4, b5, b6⟩ := hb
  refine ⟨by omega, ?_, rfl⟩
  generalize x.1 * y.2.tdiv (gcdS x.2 y.2) = u at *
  generalize y.1 * x.2.tdiv (gcdS x.2 y.2) = v at *
  generalize x.2.tdiv (gcdS x.2 y.2) * y.2 = t at *
  refine ⟨by omega, by omega, by omega, by omega, by omega, by omega, by omega, by omega, by omega, by omega, by omega, by omega, by omega⟩
theorem ok109 : Ok Tryz.prog 109 cPlus := ok_of_wp mixed g8 (by kernel_rfl) (by kernel_rfl) na fun xx => wp109 xx.1 xx.2.1
abbrev G9 : Gam := (109, cPlus) :: G8
theorem g9 : GamOk Tryz.prog G9 := .cons ok109 g8

def byS (x y : Int × Int) : Int × Int := lowestS (x.1 * (y.2.tdiv (gcdS x.2 y.2))) (x.2.tdiv (gcdS x.2 y.2) * y.1)
def cBy : Con := { args := [aP, aP], ress := [Pr], owns := [], pre := fun (x, y, _) => [ratV x, ratV y, lcmS x y ≤ 281474976710656, 0 < y.1], spec := fun (x, y, _) => (byS x y, ()) }
theorem vc157 : ∀ (x y : Int × Int), wpF Tryz.prog G9 (na ()) Tryz.f157 cBy (x, y, ()) = (ratV x → ratV y → lcmS x y ≤ (281474976710656 : Int) → (0 : Int) < y.fst → (((-9200000000000000000 : Int) ≤ x.snd ∧ x.snd ≤ (9200000000000000000 : Int)) ∧ (0 : Int) ≤ y.snd ∧ y.snd ≤ (9200000000000000000 : Int)) ∧ ((gcdS x.snd y.snd = (0 : Int) → False) ∧ ((-9223372036854775808 : Int) ≤ Int.tdiv y.snd (gcdS x.snd y.snd) ∧ Int.tdiv y.snd (gcdS x.snd y.snd) ≤ (9223372036854775807 : Int)) ∧ ((-9223372036854775808 : Int) ≤ x.fst * Int.tdiv y.snd (gcdS x.snd y.snd) ∧ x.fst * Int.tdiv y.snd (gcdS x.snd y.snd) ≤ (9223372036854775807 : Int)) ∧ (gcdS x.snd y.snd = (0 : Int) → False) ∧ ((-9223372036854775808 : Int) ≤ Int.tdiv x.snd (gcdS x.snd y.snd) ∧ Int.tdiv x.snd (gcdS x.snd y.snd) ≤ (9223372036854775807 : Int)) ∧ ((-9223372036854775808 : Int) ≤ Int.tdiv x.snd (gcdS x.snd y.snd) * y.fst ∧ Int.tdiv x.snd (gcdS x.snd y.snd) * y.fst ≤ (9223372036854775807 : Int)) ∧ ((-9200000000000000000 : Int) ≤ x.fst * Int.tdiv y.snd (gcdS x.snd y.snd) ∧ x.fst * Int.tdiv y.snd (gcdS x.snd y.snd) ≤ (9200000000000000000 : Int)) ∧ (0 : Int) < Int.tdiv x.snd (gcdS x.snd y.snd) * y.fst ∧ Int.tdiv x.snd (gcdS x.snd y.snd) * y.fst ≤ (9200000000000000000 : Int)) ∧ ((lowestS (x.fst * Int.tdiv y.snd (gcdS x.snd y.snd)) (Int.tdiv x.snd (gcdS x.snd y.snd) * y.fst)).fst, (lowestS (x.fst * Int.tdiv y.snd (gcdS x.snd y.snd)) (Int.tdiv x.snd (gcdS x.snd y.snd) * y.fst)).snd) = byS x y) := by
  intros
  kernel_rfl
theorem wp157 (x y : Int × Int) : wpF Tryz.prog G9 (na ()) Tryz.f157 cBy (x, y, ()) := by
  refine (vc157 x y).mpr ?_
  intro hx hy hl hy0
  have hb := plus_bd hx hy hl
  obtain ⟨x1, x2, x3, x4⟩ := hx
  obtain ⟨y1, y2, y3, y4⟩ := hy
  dsimp only at hb
  obtain ⟨b1, b2, b3, b4, b5, b6⟩ := hb
  have p3 := Int.mul_pos hy0 b2.1
  rw [Int.mul_comm y.1] at b6 p3
  refine ⟨by omega, ?_, rfl⟩
  generalize x.1 * y.2.tdiv (gcdS x.2 y.2) = u at *
  generalize x.2.tdiv (gcdS x.2 y.2) * y.1 = t at *
  refine ⟨by omega, by omega, by omega, by omega, by omega, by omega, by omega, by omega, by omega⟩
theorem ok157 : Ok Tryz.prog 157 cBy := ok_of_wp mixed g9 (by kernel_rfl) (by kernel_rfl) na fun xx => wp157 xx.1 xx.2.1
abbrev G10 : Gam := (157, cBy) :: G9
theorem g10 : GamOk Tryz.prog G10 := .cons ok157 g9
abbrev cPieceF : Con := { args := [aP, .ref 3 sI], ress := [Bo], owns := [], pre := fun _ => [], spec := fun (p, v, _) => (decide (v < p.1), ()) }
theorem vc160 : ∀ (p : Int × Int) (v : Int), wpF Tryz.prog G10 (na ()) Tryz.f160 cPieceF (p, v, ()) = (decide (v < p.fst) = decide (v < p.fst)) := by
  intros
  kernel_rfl
theorem wp160 (p : Int × Int) (v : Int) : wpF Tryz.prog G10 (na ()) Tryz.f160 cPieceF (p, v, ()) := by
  refine (vc160 p v).mpr ?_
  rfl
theorem ok160 : Ok Tryz.prog 160 cPieceF := ok_of_wp mixed g10 (by kernel_rfl) (by kernel_rfl) na fun xx => wp160 xx.1 xx.2.1
abbrev G11 : Gam := (160, cPieceF) :: G10
theorem g11 : GamOk Tryz.prog G11 := .cons ok160 g10
def idxS {α : Type} (f : α → Bool) : List α → Int → Int
  | [], _ => -1
  | x :: l, k => if f x = true then k else idxS f l (k + 1)
abbrev cIdxLine : Con := { args := [.val false (.list 176 sPt), .fn [Pr] Bo], ress := [I], owns := [], pre := fun (l, (q, _), _) => [l.length ≤ 1000000, ∀ x ∈ l, conj (q (x, ()))], spec := fun (l, (_, f), _) => (idxS (fun x => f (x, ())) l 0, ()) }
abbrev annIdx (T : TypeId) (s : Sch) (l : List s.T) (ps : List (Bool × Sch)) (r : Bool × Sch) (q : Tup ps → List Prop) (f : Tup ps → r.2.T) (J : Nat → Prop) : Ann := { X := Nat, σ := fun k => ⟨2, [(0, .one (.sl 0)), (1, .one (.fv 1)), (7, .one (.int .i64 l.length)), (8, .one (.int .i64 k))], [(0, .imm T s l), (1, .afn ps r q f)]⟩, inv := fun k => k ≤ l.length ∧ J k, mu := fun k => l.length - k }
theorem idxS_drop {α : Type} {f : α → Bool} {l : List α} {k : Nat} {d : α} (h : k < l.length) : idxS f (l.drop k) k = if f (l.getD k d) = true then (k : Int) else idxS f (l.drop (k + 1)) (k + 1 : Nat) := by
  rw [List.drop_eq_getElem_cons h]
  simp [idxS, List.getD_eq_getElem?_getD, h]
theorem getD_mem {α : Type} {l : List α} {k : Nat} {d : α} (h : k < l.length) : l.getD k d ∈ l := by
  simp [List.getD_eq_getElem?_getD, h]
theorem idxS_bd {α : Type} {f : α → Bool} : ∀ {l : List α} {k : Nat}, idxS f l k = -1 ∨ (k ≤ idxS f l k ∧ idxS f l k < k + l.length)
  | [], _ => .inl rfl
  | x :: l, k => by
    simp only [idxS]
    split
    · exact .inr ⟨Int.le_refl _, by simp; omega⟩
    · rcases idxS_bd (f := f) (l := l) (k := k + 1) with h | h
      · exact .inl h
      · refine .inr ⟨by simp at h; omega, by simp at h ⊢; omega⟩
theorem vc159 : ∀ (l : List (Int × Int)) (q : (Int × Int) × Unit → List Prop) (f : (Int × Int) × Unit → Bool), wpF Tryz.prog G11 (ann0 (annIdx (176 : TypeId) sPt l [Pr] Bo q f fun (k : Nat) => idxS (fun (x : Int × Int) => f (x, ())) l (0 : Int) = idxS (fun (x : Int × Int) => f (x, ())) (List.drop k l) (↑k : Int))) Tryz.f159 cIdxLine (l, (q, f), ()) = (List.length l ≤ (1000000 : Nat) → (∀ (x : Int × Int), x ∈ l → conj (q (x, PUnit.unit))) → ∃ (x : Nat), ((↑(List.length l) : Int) = (↑(List.length l) : Int) ∧ (0 : Int) = (↑x : Int) ∧ l = l ∧ (fun (x : (Int × Int) × PUnit) => q x) = q ∧ (fun (x : (Int × Int) × PUnit) => f x) = f) ∧ (x ≤ List.length l ∧ idxS (fun (x : Int × Int) => f (x, PUnit.unit)) l (0 : Int) = idxS (fun (x : Int × Int) => f (x, PUnit.unit)) (List.drop x l) (↑x : Int)) ∧ ∀ (x : Nat), x ≤ List.length l ∧ idxS (fun (x : Int × Int) => f (x, PUnit.unit)) l (0 : Int) = idxS (fun (x : Int × Int) => f (x, PUnit.unit)) (List.drop x l) (↑x : Int) → (decide ((↑x : Int) < (↑(List.length l) : Int)) = true → (((0 : Int) ≤ (↑x : Int) ∧ (↑x : Int) < (↑(List.length l) : Int)) ∧ ((0 : Int) ≤ (↑x : Int) ∧ (↑x : Int) < (↑(List.length l) : Int)) ∧ conj (q (((List.getD l x ((0 : Int), (0 : Int))).fst, (List.getD l x ((0 : Int), (0 : Int))).snd), PUnit.unit))) ∧ (f (((List.getD l x ((0 : Int), (0 : Int))).fst, (List.getD l x ((0 : Int), (0 : Int))).snd), PUnit.unit) = true → (↑x : Int) = idxS (fun (x : Int × Int) => f (x, PUnit.unit)) l (0 : Int)) ∧ (f (((List.getD l x ((0 : Int), (0 : Int))).fst, (List.getD l x ((0 : Int), (0 : Int))).snd), PUnit.unit) = false → ((-9223372036854775808 : Int) ≤ (↑x : Int) + (1 : Int) ∧ (↑x : Int) + (1 : Int) ≤ (9223372036854775807 : Int)) ∧ ∃ (y : Nat), ((↑(List.length l) : Int) = (↑(List.length l) : Int) ∧ (↑x : Int) + (1 : Int) = (↑y : Int) ∧ l = l ∧ (fun (x : (Int × Int) × PUnit) => q x) = q ∧ (fun (x : (Int × Int) × PUnit) => f x) = f) ∧ (y ≤ List.length l ∧ idxS (fun (x : Int × Int) => f (x, PUnit.unit)) l (0 : Int) = idxS (fun (x : Int × Int) => f (x, PUnit.unit)) (List.drop y l) (↑y : Int)) ∧ List.length l - y < List.length l - x)) ∧ (decide ((↑x : Int) < (↑(List.length l) : Int)) = false → (-1 : Int) = idxS (fun (x : Int × Int) => f (x, PUnit.unit)) l (0 : Int))) := by
  intros
  kernel_rfl
theorem wp159 (l : List (Int × Int)) (q : (Int × Int) × Unit → List Prop) (f : (Int × Int) × Unit → Bool) : wpF Tryz.prog G11 (ann0 (annIdx 176 sPt l [Pr] Bo q f fun k => idxS (fun x => f (x, ())) l 0 = idxS (fun x => f (x, ())) (l.drop k) k)) Tryz.f159 cIdxLine (l, (q, f), ()) := by
  refine (vc159 l q f).mpr ?_
  intro hb hq
  refine ⟨(0 : Nat), ⟨rfl, rfl, rfl, rfl, rfl⟩, ⟨Nat.zero_le _, rfl⟩, fun (k : Nat) hk => ⟨fun h => ?_, fun h => ?_⟩⟩
  · have hlt : k < l.length := by simpa using h
    have hd := idxS_drop (f := fun x => f (x, ())) (d := (0, 0)) hlt
    refine ⟨⟨by omega, by omega, hq _ (getD_mem hlt)⟩, fun h1 => ?_, fun h1 => ⟨by omega, (k + 1 : Nat), ⟨rfl, by simp, rfl, rfl, rfl⟩, ⟨by omega, ?_⟩, by omega⟩⟩
    · rw [hk.2, hd, if_pos h1]
    · rw [hk.2, hd, if_neg (by rw [show f (l.getD k (0, 0), ()) = false from h1]; simp)]
  · have hlt : ¬ k < l.length := by simpa using h
    have : k = l.length := by omega
    rw [hk.2, this, List.drop_length]; rfl
theorem ok159 : Ok Tryz.prog 159 cIdxLine := ok_of_wp mixed g11 (by kernel_rfl) (by kernel_rfl) (fun xx => ann0 (annIdx 176 sPt xx.1 [Pr] Bo xx.2.1.1 xx.2.1.2 fun k => idxS (fun x => xx.2.1.2 (x, ())) xx.1 0 = idxS (fun x => xx.2.1.2 (x, ())) (xx.1.drop k) k)) fun xx => wp159 xx.1 xx.2.1.1 xx.2.1.2
abbrev G12 : Gam := (159, cIdxLine) :: G11
theorem g12 : GamOk Tryz.prog G12 := .cons ok159 g11

def pieceS (l : List (Int × Int)) (v : Int) : Int := let i := idxS (fun x => decide (v < x.1)) l 0; if i < 0 then l.length - 2 else i - 1
abbrev aL (T : TypeId) : AK := .val false (.list T sPt)
def cPiece : Con := { args := [aL 176, aI], ress := [I], owns := [], pre := fun (l, _, _) => [l.length ≤ 1000000], spec := fun (l, v, _) => (pieceS l v, ()) }
theorem vc112 : ∀ (l : List (Int × Int)) (v : Int), wpF Tryz.prog G12 (na ()) Tryz.f112 cPiece (l, v, ()) = (List.length l ≤ (1000000 : Nat) → (List.length l ≤ (1000000 : Nat) ∧ ∀ (x : Int × Int), x ∈ l → True) ∧ (decide (idxS (fun (x : Int × Int) => decide (v < x.fst)) l (0 : Int) < (0 : Int)) = true → ((-9223372036854775808 : Int) ≤ (↑(List.length l) : Int) - (2 : Int) ∧ (↑(List.length l) : Int) - (2 : Int) ≤ (9223372036854775807 : Int)) ∧ (↑(List.length l) : Int) - (2 : Int) = pieceS l v) ∧ (decide (idxS (fun (x : Int × Int) => decide (v < x.fst)) l (0 : Int) < (0 : Int)) = false → ((-9223372036854775808 : Int) ≤ idxS (fun (x : Int × Int) => decide (v < x.fst)) l (0 : Int) - (1 : Int) ∧ idxS (fun (x : Int × Int) => decide (v < x.fst)) l (0 : Int) - (1 : Int) ≤ (9223372036854775807 : Int)) ∧ idxS (fun (x : Int × Int) => decide (v < x.fst)) l (0 : Int) - (1 : Int) = pieceS l v)) := by
  intros
  kernel_rfl
theorem wp112 (l : List (Int × Int)) (v : Int) : wpF Tryz.prog G12 (na ()) Tryz.f112 cPiece (l, v, ()) := by
  refine (vc112 l v).mpr ?_
  intro hb
  have hx := idxS_bd (f := fun x : Int × Int => decide (v < x.1)) (l := l) (k := 0)
  simp only [pieceS]
  generalize idxS (fun x : Int × Int => decide (v < x.1)) l 0 = n at *
  change n = -1 ∨ (0 : Int) ≤ n ∧ n < 0 + (l.length : Int) at hx
  refine ⟨⟨hb, fun _ _ => trivial⟩, fun h => ?_, fun h => ?_⟩
  · have h : n < 0 := by simpa using h
    exact ⟨by omega, by rw [if_pos h]⟩
  · have h : ¬ n < 0 := by simpa using h
    exact ⟨by omega, by rw [if_neg h]⟩
theorem ok112 : Ok Tryz.prog 112 cPiece := ok_of_wp mixed g12 (by kernel_rfl) (by kernel_rfl) na fun xx => wp112 xx.1 xx.2.1
abbrev G13 : Gam := (112, cPiece) :: G12
theorem g13 : GamOk Tryz.prog G13 := .cons ok112 g12
def lineGo : List (Int × Int) → Option (Int × Int) → Int
  | [], _ => 0
  | p :: r, last => let e := firstS [withinS p.1 0 1000, withinS p.2 (-1000) 1000]
    if e ≠ 0 then e else match last with
      | some q => if p.1 ≤ q.1 ∨ q.2 ≤ p.2 then 11 else lineGo r (some p)
      | none => lineGo r (some p)
def lineS (l : List (Int × Int)) : Int := if l.length < 2 then 16 else if 8 < l.length then 5 else lineGo l none
def cCheckLine : Con := { args := [aL 176], ress := [I], owns := [], pre := fun _ => [], spec := fun (l, _) => (lineS l, ()) }
def lastOf (l : List (Int × Int)) (k : Nat) : Option (Int × Int) := if k = 0 then none else l[k - 1]?
abbrev annCL (l : List (Int × Int)) : Ann := { X := Nat, σ := fun k => ⟨1, [(0, .one (.sl 0)), (20, .one (.sl 0)), (21, .one (.int .i64 l.length)), (22, .one (.int .i64 k))], [(0, .imm 176 sPt l)]⟩, inv := fun k => k ≤ l.length ∧ lineGo l none = lineGo (l.drop k) (lastOf l k) ∧ 2 ≤ l.length ∧ l.length ≤ 8, mu := fun k => l.length - k }
theorem lineGo_drop {l : List (Int × Int)} {k : Nat} (h : k < l.length) : lineGo (l.drop k) (lastOf l k) = (let p := l.getD k (0, 0)
    let e := firstS [withinS p.1 0 1000, withinS p.2 (-1000) 1000]
    if e ≠ 0 then e else if 0 < k ∧ (p.1 ≤ (l.getD (k - 1) (0, 0)).1 ∨ (l.getD (k - 1) (0, 0)).2 ≤ p.2) then 11 else lineGo (l.drop (k + 1)) (lastOf l (k + 1))) := by
  rw [List.drop_eq_getElem_cons h]
  have e1 : l.getD k (0, 0) = l[k] := by simp [List.getD_eq_getElem?_getD, h]
  have e2 : lastOf l (k + 1) = some l[k] := by simp [lastOf, h]
  simp only [lineGo, e1, e2]
  by_cases hk : k = 0
  · subst hk; simp [lastOf]
  · have h1 : k - 1 < l.length := by omega
    have e3 : lastOf l k = some l[k - 1] := by simp [lastOf, hk, h1]
    have e4 : l.getD (k - 1) (0, 0) = l[k - 1] := by simp [List.getD_eq_getElem?_getD, h1]
    have : 0 < k := by omega
    simp only [e3, e4, this, true_and]
theorem vc24 : ∀ (l : List (Int × Int)), wpF Tryz.prog G13 (ann0 (annCL l)) Tryz.f24 cCheckLine (l, ()) = ((2 : Nat) ≤ (1000000 : Nat) ∧ ((firstS [bif decide ((↑(List.length l) : Int) < (2 : Int)) then (16 : Int) else (0 : Int), bif decide ((8 : Int) < (↑(List.length l) : Int)) then (5 : Int) else (0 : Int)] != (0 : Int)) = true → firstS [bif decide ((↑(List.length l) : Int) < (2 : Int)) then (16 : Int) else (0 : Int), bif decide ((8 : Int) < (↑(List.length l) : Int)) then (5 : Int) else (0 : Int)] = lineS l) ∧ ((firstS [bif decide ((↑(List.length l) : Int) < (2 : Int)) then (16 : Int) else (0 : Int), bif decide ((8 : Int) < (↑(List.length l) : Int)) then (5 : Int) else (0 : Int)] != (0 : Int)) = false → ∃ (x : Nat), ((↑(List.length l) : Int) = (↑(List.length l) : Int) ∧ (0 : Int) = (↑x : Int) ∧ l = l) ∧ (x ≤ List.length l ∧ lineGo l none = lineGo (List.drop x l) (lastOf l x) ∧ (2 : Nat) ≤ List.length l ∧ List.length l ≤ (8 : Nat)) ∧ ∀ (x : Nat), x ≤ List.length l ∧ lineGo l none = lineGo (List.drop x l) (lastOf l x) ∧ (2 : Nat) ≤ List.length l ∧ List.length l ≤ (8 : Nat) → (decide ((↑x : Int) < (↑(List.length l) : Int)) = true → (((0 : Int) ≤ (↑x : Int) ∧ (↑x : Int) < (↑(List.length l) : Int)) ∧ (0 : Int) ≤ (↑x : Int) ∧ (↑x : Int) < (↑(List.length l) : Int)) ∧ (2 : Nat) ≤ (1000000 : Nat) ∧ ((firstS [withinS (List.getD l x ((0 : Int), (0 : Int))).fst (0 : Int) (1000 : Int), withinS (List.getD l x ((0 : Int), (0 : Int))).snd (-1000 : Int) (1000 : Int)] != (0 : Int)) = true → firstS [withinS (List.getD l x ((0 : Int), (0 : Int))).fst (0 : Int) (1000 : Int), withinS (List.getD l x ((0 : Int), (0 : Int))).snd (-1000 : Int) (1000 : Int)] = lineS l) ∧ ((firstS [withinS (List.getD l x ((0 : Int), (0 : Int))).fst (0 : Int) (1000 : Int), withinS (List.getD l x ((0 : Int), (0 : Int))).snd (-1000 : Int) (1000 : Int)] != (0 : Int)) = false → ((decide ((0 : Int) < (↑x : Int)) = true → (-9223372036854775808 : Int) ≤ (↑x : Int) - (1 : Int) ∧ (↑x : Int) - (1 : Int) ≤ (9223372036854775807 : Int)) ∧ (decide ((0 : Int) < (↑x : Int)) = true → (0 : Int) ≤ (↑x : Int) - (1 : Int) ∧ (↑x : Int) - (1 : Int) < (↑(List.length l) : Int)) ∧ (decide ((0 : Int) < (↑x : Int)) = true → (0 : Int) ≤ (↑x : Int) - (1 : Int) ∧ (↑x : Int) - (1 : Int) < (↑(List.length l) : Int)) ∧ (decide ((0 : Int) < (↑x : Int)) = true ∧ decide ((List.getD l x ((0 : Int), (0 : Int))).fst ≤ (List.getD l (Int.toNat ((↑x : Int) - (1 : Int))) ((0 : Int), (0 : Int))).fst) = false → (-9223372036854775808 : Int) ≤ (↑x : Int) - (1 : Int) ∧ (↑x : Int) - (1 : Int) ≤ (9223372036854775807 : Int)) ∧ (decide ((0 : Int) < (↑x : Int)) = true ∧ decide ((List.getD l x ((0 : Int), (0 : Int))).fst ≤ (List.getD l (Int.toNat ((↑x : Int) - (1 : Int))) ((0 : Int), (0 : Int))).fst) = false → (0 : Int) ≤ (↑x : Int) - (1 : Int) ∧ (↑x : Int) - (1 : Int) < (↑(List.length l) : Int)) ∧ (decide ((0 : Int) < (↑x : Int)) = true ∧ decide ((List.getD l x ((0 : Int), (0 : Int))).fst ≤ (List.getD l (Int.toNat ((↑x : Int) - (1 : Int))) ((0 : Int), (0 : Int))).fst) = false → (0 : Int) ≤ (↑x : Int) - (1 : Int) ∧ (↑x : Int) - (1 : Int) < (↑(List.length l) : Int))) ∧ ((bif decide ((0 : Int) < (↑x : Int)) then bif decide ((List.getD l x ((0 : Int), (0 : Int))).fst ≤ (List.getD l (Int.toNat ((↑x : Int) - (1 : Int))) ((0 : Int), (0 : Int))).fst) then true else decide ((List.getD l (Int.toNat ((↑x : Int) - (1 : Int))) ((0 : Int), (0 : Int))).snd ≤ (List.getD l x ((0 : Int), (0 : Int))).snd) else false) = true → (11 : Int) = lineS l) ∧ ((bif decide ((0 : Int) < (↑x : Int)) then bif decide ((List.getD l x ((0 : Int), (0 : Int))).fst ≤ (List.getD l (Int.toNat ((↑x : Int) - (1 : Int))) ((0 : Int), (0 : Int))).fst) then true else decide ((List.getD l (Int.toNat ((↑x : Int) - (1 : Int))) ((0 : Int), (0 : Int))).snd ≤ (List.getD l x ((0 : Int), (0 : Int))).snd) else false) = false → ((-9223372036854775808 : Int) ≤ (↑x : Int) + (1 : Int) ∧ (↑x : Int) + (1 : Int) ≤ (9223372036854775807 : Int)) ∧ ∃ (y : Nat), ((↑(List.length l) : Int) = (↑(List.length l) : Int) ∧ (↑x : Int) + (1 : Int) = (↑y : Int) ∧ l = l) ∧ (y ≤ List.length l ∧ lineGo l none = lineGo (List.drop y l) (lastOf l y) ∧ (2 : Nat) ≤ List.length l ∧ List.length l ≤ (8 : Nat)) ∧ List.length l - y < List.length l - x))) ∧ (decide ((↑x : Int) < (↑(List.length l) : Int)) = false → (0 : Int) = lineS l))) := by
  intros
  kernel_rfl
theorem wp24 (l : List (Int × Int)) : wpF Tryz.prog G13 (ann0 (annCL l)) Tryz.f24 cCheckLine (l, ()) := by
  refine (vc24 l).mpr ?_
  have hc : firstS [bif decide ((l.length : Int) < 2) then 16 else 0, bif decide (8 < (l.length : Int)) then 5 else 0] = if l.length < 2 then 16 else if 8 < l.length then 5 else 0 := by
    by_cases h1 : (l.length : Int) < 2
    · simp [firstS, h1, show l.length < 2 by omega]
    · by_cases h2 : 8 < (l.length : Int)
      · simp [firstS, h1, h2, show ¬ l.length < 2 by omega, show 8 < l.length by omega]
      · simp [firstS, h1, h2, show ¬ l.length < 2 by omega, show ¬ 8 < l.length by omega]
  refine ⟨by omega, fun h => ?_, fun h => ?_⟩
  · rw [hc] at h ⊢
    simp only [lineS]
    by_cases h1 : l.length < 2
    · simp [h1]
    · by_cases h2 : 8 < l.length
      · simp [h1, h2]
      · simp [h1, h2] at h
  · rw [hc] at h
    have h1 : ¬ l.length < 2 := by intro h1; simp [h1] at h
    have h2 : ¬ 8 < l.length := by intro h2; simp [h1, h2] at h
    have hl : lineS l = lineGo l none := by simp only [lineS, if_neg h1, if_neg h2]
    refine ⟨(0 : Nat), ⟨rfl, rfl, rfl⟩, ⟨Nat.zero_le _, rfl, by omega, by omega⟩, fun (k : Nat) hk => ⟨fun h => ?_, fun h => ?_⟩⟩
    · have hlt : k < l.length := by simpa using h
      have hd := lineGo_drop hlt
      simp only at hd
      have ek : ((k : Int) - 1).toNat = k - 1 := by omega
      rw [← hk.2.1] at hd
      rw [ek]
      refine ⟨by omega, by omega, fun h3 => ?_, fun h3 => ⟨?_, fun h4 => ?_, fun h4 => ?_⟩⟩
      · rw [hl, hd, if_pos (by simpa using h3)]
      · simp only [decide_eq_true_eq, decide_eq_false_iff_not]
        refine ⟨?_, ?_, ?_, ?_, ?_, ?_⟩ <;> intro h5 <;> omega
      · have h3' : firstS [withinS (l.getD k (0, 0)).1 0 1000, withinS (l.getD k (0, 0)).2 (-1000) 1000] = 0 := by simpa using h3
        rw [hl, hd, h3', if_neg (by simp), if_pos ?_]
        revert h4
        by_cases hk0 : 0 < k
        · by_cases hp : (l.getD k (0, 0)).1 ≤ (l.getD (k - 1) (0, 0)).1 <;> simp [hk0, hp]
        · simp [hk0]
      · refine ⟨by omega, (k + 1 : Nat), ⟨rfl, by simp, rfl⟩, ⟨by omega, ?_, by omega, by omega⟩, by omega⟩
        have h3' : firstS [withinS (l.getD k (0, 0)).1 0 1000, withinS (l.getD k (0, 0)).2 (-1000) 1000] = 0 := by simpa using h3
        rw [hd, h3', if_neg (by simp), if_neg ?_]
        revert h4
        by_cases hk0 : 0 < k
        · by_cases hp : (l.getD k (0, 0)).1 ≤ (l.getD (k - 1) (0, 0)).1 <;> simp [hk0, hp]
        · simp [hk0]
    · have hlt : ¬ k < l.length := by simpa using h
      have : k = l.length := by omega
      rw [hl, hk.2.1, this, List.drop_length]
      simp [lineGo]
theorem ok24 : Ok Tryz.prog 24 cCheckLine := ok_of_wp mixed g13 (by kernel_rfl) (by kernel_rfl) (fun xx => ann0 (annCL xx.1)) fun xx => wp24 xx.1
abbrev G14 : Gam := (24, cCheckLine) :: G13
theorem g14 : GamOk Tryz.prog G14 := .cons ok24 g13
end Go.Proofs.YtacaadhlobbemaaGreatDoor
namespace Go.Proofs.YtacaadhlobbemaaGreatDoor
open Go.Sx
def lineOk (l : List (Int × Int)) : Prop := 2 ≤ l.length ∧ l.length ≤ 8 ∧ ∀ x ∈ l, 0 ≤ x.1 ∧ x.1 ≤ 1000 ∧ -1000 ≤ x.2 ∧ x.2 ≤ 1000
def gP (l : List (Int × Int)) (k : Int) : Int × Int := l.getD k.toNat (0, 0)
def atS (l : List (Int × Int)) (v : Int) : Int × Int :=
  let a := gP l (pieceS l v)
  let b := gP l (pieceS l v + 1)
  bif b.1 == v then (b.2, 1) else lowestS (a.2 * (b.1 - a.1) + (b.2 - a.2) * (v - a.1)) (b.1 - a.1)
def cLineAt : Con := { args := [aL 176, aI], ress := [Pr], owns := [], pre := fun (l, v, _) => [lineOk l, 0 ≤ v ∧ v ≤ 1000, 0 ≤ pieceS l v ∧ pieceS l v + 1 < l.length, (gP l (pieceS l v)).1 < (gP l (pieceS l v + 1)).1], spec := fun (l, v, _) => (atS l v, ()) }
theorem vc101 : ∀ (l : List (Int × Int)) (v : Int), wpF Tryz.prog G14 (na ()) Tryz.f101 cLineAt (l, v, ()) = (lineOk l → (0 : Int) ≤ v ∧ v ≤ (1000 : Int) → (0 : Int) ≤ pieceS l v ∧ pieceS l v + (1 : Int) < (↑(List.length l) : Int) → (gP l (pieceS l v)).fst < (gP l (pieceS l v + (1 : Int))).fst → List.length l ≤ (1000000 : Nat) ∧ (((0 : Int) ≤ pieceS l v ∧ pieceS l v < (↑(List.length l) : Int)) ∧ ((0 : Int) ≤ pieceS l v ∧ pieceS l v < (↑(List.length l) : Int)) ∧ ((-9223372036854775808 : Int) ≤ pieceS l v + (1 : Int) ∧ pieceS l v + (1 : Int) ≤ (9223372036854775807 : Int)) ∧ ((0 : Int) ≤ pieceS l v + (1 : Int) ∧ pieceS l v + (1 : Int) < (↑(List.length l) : Int)) ∧ (0 : Int) ≤ pieceS l v + (1 : Int) ∧ pieceS l v + (1 : Int) < (↑(List.length l) : Int)) ∧ (((List.getD l (Int.toNat (pieceS l v + (1 : Int))) ((0 : Int), (0 : Int))).fst == v && ((List.getD l (Int.toNat (pieceS l v + (1 : Int))) ((0 : Int), (0 : Int))).snd == (List.getD l (Int.toNat (pieceS l v + (1 : Int))) ((0 : Int), (0 : Int))).snd && true)) = true → ((List.getD l (Int.toNat (pieceS l v + (1 : Int))) ((0 : Int), (0 : Int))).snd, (1 : Int)) = atS l v) ∧ (((List.getD l (Int.toNat (pieceS l v + (1 : Int))) ((0 : Int), (0 : Int))).fst == v && ((List.getD l (Int.toNat (pieceS l v + (1 : Int))) ((0 : Int), (0 : Int))).snd == (List.getD l (Int.toNat (pieceS l v + (1 : Int))) ((0 : Int), (0 : Int))).snd && true)) = false → ((-9223372036854775808 : Int) ≤ (List.getD l (Int.toNat (pieceS l v + (1 : Int))) ((0 : Int), (0 : Int))).fst - (List.getD l (Int.toNat (pieceS l v)) ((0 : Int), (0 : Int))).fst ∧ (List.getD l (Int.toNat (pieceS l v + (1 : Int))) ((0 : Int), (0 : Int))).fst - (List.getD l (Int.toNat (pieceS l v)) ((0 : Int), (0 : Int))).fst ≤ (9223372036854775807 : Int)) ∧ (((-9223372036854775808 : Int) ≤ (List.getD l (Int.toNat (pieceS l v)) ((0 : Int), (0 : Int))).snd * ((List.getD l (Int.toNat (pieceS l v + (1 : Int))) ((0 : Int), (0 : Int))).fst - (List.getD l (Int.toNat (pieceS l v)) ((0 : Int), (0 : Int))).fst) ∧ (List.getD l (Int.toNat (pieceS l v)) ((0 : Int), (0 : Int))).snd * ((List.getD l (Int.toNat (pieceS l v + (1 : Int))) ((0 : Int), (0 : Int))).fst - (List.getD l (Int.toNat (pieceS l v)) ((0 : Int), (0 : Int))).fst) ≤ (9223372036854775807 : Int)) ∧ ((-9223372036854775808 : Int) ≤ (List.getD l (Int.toNat (pieceS l v + (1 : Int))) ((0 : Int), (0 : Int))).snd - (List.getD l (Int.toNat (pieceS l v)) ((0 : Int), (0 : Int))).snd ∧ (List.getD l (Int.toNat (pieceS l v + (1 : Int))) ((0 : Int), (0 : Int))).snd - (List.getD l (Int.toNat (pieceS l v)) ((0 : Int), (0 : Int))).snd ≤ (9223372036854775807 : Int)) ∧ ((-9223372036854775808 : Int) ≤ v - (List.getD l (Int.toNat (pieceS l v)) ((0 : Int), (0 : Int))).fst ∧ v - (List.getD l (Int.toNat (pieceS l v)) ((0 : Int), (0 : Int))).fst ≤ (9223372036854775807 : Int)) ∧ ((-9223372036854775808 : Int) ≤ ((List.getD l (Int.toNat (pieceS l v + (1 : Int))) ((0 : Int), (0 : Int))).snd - (List.getD l (Int.toNat (pieceS l v)) ((0 : Int), (0 : Int))).snd) * (v - (List.getD l (Int.toNat (pieceS l v)) ((0 : Int), (0 : Int))).fst) ∧ ((List.getD l (Int.toNat (pieceS l v + (1 : Int))) ((0 : Int), (0 : Int))).snd - (List.getD l (Int.toNat (pieceS l v)) ((0 : Int), (0 : Int))).snd) * (v - (List.getD l (Int.toNat (pieceS l v)) ((0 : Int), (0 : Int))).fst) ≤ (9223372036854775807 : Int)) ∧ ((-9223372036854775808 : Int) ≤ (List.getD l (Int.toNat (pieceS l v)) ((0 : Int), (0 : Int))).snd * ((List.getD l (Int.toNat (pieceS l v + (1 : Int))) ((0 : Int), (0 : Int))).fst - (List.getD l (Int.toNat (pieceS l v)) ((0 : Int), (0 : Int))).fst) + ((List.getD l (Int.toNat (pieceS l v + (1 : Int))) ((0 : Int), (0 : Int))).snd - (List.getD l (Int.toNat (pieceS l v)) ((0 : Int), (0 : Int))).snd) * (v - (List.getD l (Int.toNat (pieceS l v)) ((0 : Int), (0 : Int))).fst) ∧ (List.getD l (Int.toNat (pieceS l v)) ((0 : Int), (0 : Int))).snd * ((List.getD l (Int.toNat (pieceS l v + (1 : Int))) ((0 : Int), (0 : Int))).fst - (List.getD l (Int.toNat (pieceS l v)) ((0 : Int), (0 : Int))).fst) + ((List.getD l (Int.toNat (pieceS l v + (1 : Int))) ((0 : Int), (0 : Int))).snd - (List.getD l (Int.toNat (pieceS l v)) ((0 : Int), (0 : Int))).snd) * (v - (List.getD l (Int.toNat (pieceS l v)) ((0 : Int), (0 : Int))).fst) ≤ (9223372036854775807 : Int)) ∧ ((-9200000000000000000 : Int) ≤ (List.getD l (Int.toNat (pieceS l v)) ((0 : Int), (0 : Int))).snd * ((List.getD l (Int.toNat (pieceS l v + (1 : Int))) ((0 : Int), (0 : Int))).fst - (List.getD l (Int.toNat (pieceS l v)) ((0 : Int), (0 : Int))).fst) + ((List.getD l (Int.toNat (pieceS l v + (1 : Int))) ((0 : Int), (0 : Int))).snd - (List.getD l (Int.toNat (pieceS l v)) ((0 : Int), (0 : Int))).snd) * (v - (List.getD l (Int.toNat (pieceS l v)) ((0 : Int), (0 : Int))).fst) ∧ (List.getD l (Int.toNat (pieceS l v)) ((0 : Int), (0 : Int))).snd * ((List.getD l (Int.toNat (pieceS l v + (1 : Int))) ((0 : Int), (0 : Int))).fst - (List.getD l (Int.toNat (pieceS l v)) ((0 : Int), (0 : Int))).fst) + ((List.getD l (Int.toNat (pieceS l v + (1 : Int))) ((0 : Int), (0 : Int))).snd - (List.getD l (Int.toNat (pieceS l v)) ((0 : Int), (0 : Int))).snd) * (v - (List.getD l (Int.toNat (pieceS l v)) ((0 : Int), (0 : Int))).fst) ≤ (9200000000000000000 : Int)) ∧ (0 : Int) < (List.getD l (Int.toNat (pieceS l v + (1 : Int))) ((0 : Int), (0 : Int))).fst - (List.getD l (Int.toNat (pieceS l v)) ((0 : Int), (0 : Int))).fst ∧ (List.getD l (Int.toNat (pieceS l v + (1 : Int))) ((0 : Int), (0 : Int))).fst - (List.getD l (Int.toNat (pieceS l v)) ((0 : Int), (0 : Int))).fst ≤ (9200000000000000000 : Int)) ∧ ((lowestS ((List.getD l (Int.toNat (pieceS l v)) ((0 : Int), (0 : Int))).snd * ((List.getD l (Int.toNat (pieceS l v + (1 : Int))) ((0 : Int), (0 : Int))).fst - (List.getD l (Int.toNat (pieceS l v)) ((0 : Int), (0 : Int))).fst) + ((List.getD l (Int.toNat (pieceS l v + (1 : Int))) ((0 : Int), (0 : Int))).snd - (List.getD l (Int.toNat (pieceS l v)) ((0 : Int), (0 : Int))).snd) * (v - (List.getD l (Int.toNat (pieceS l v)) ((0 : Int), (0 : Int))).fst)) ((List.getD l (Int.toNat (pieceS l v + (1 : Int))) ((0 : Int), (0 : Int))).fst - (List.getD l (Int.toNat (pieceS l v)) ((0 : Int), (0 : Int))).fst)).fst, (lowestS ((List.getD l (Int.toNat (pieceS l v)) ((0 : Int), (0 : Int))).snd * ((List.getD l (Int.toNat (pieceS l v + (1 : Int))) ((0 : Int), (0 : Int))).fst - (List.getD l (Int.toNat (pieceS l v)) ((0 : Int), (0 : Int))).fst) + ((List.getD l (Int.toNat (pieceS l v + (1 : Int))) ((0 : Int), (0 : Int))).snd - (List.getD l (Int.toNat (pieceS l v)) ((0 : Int), (0 : Int))).snd) * (v - (List.getD l (Int.toNat (pieceS l v)) ((0 : Int), (0 : Int))).fst)) ((List.getD l (Int.toNat (pieceS l v + (1 : Int))) ((0 : Int), (0 : Int))).fst - (List.getD l (Int.toNat (pieceS l v)) ((0 : Int), (0 : Int))).fst)).snd) = atS l v)) := by
  intros
  kernel_rfl
theorem wp101 (l : List (Int × Int)) (v : Int) : wpF Tryz.prog G14 (na ()) Tryz.f101 cLineAt (l, v, ()) := by
  refine (vc101 l v).mpr ?_
  intro hl hv hp hlt
  obtain ⟨l1, l2, l3⟩ := hl
  have ha : gP l (pieceS l v) ∈ l := getD_mem (by omega)
  have hb : gP l (pieceS l v + 1) ∈ l := getD_mem (by omega)
  have a0 := l3 _ ha
  have b0 := l3 _ hb
  simp only [atS]
  change _ ∧ _ ∧ (((gP l (pieceS l v + 1)).1 == v && ((gP l (pieceS l v + 1)).2 == (gP l (pieceS l v + 1)).2 && true)) = true → _) ∧ _
  generalize hA : gP l (pieceS l v) = a at *
  generalize hB : gP l (pieceS l v + 1) = b at *
  have eA : l.getD (pieceS l v).toNat (0, 0) = a := hA
  have eB : l.getD (pieceS l v + 1).toNat (0, 0) = b := hB
  simp only [eA, eB] at *
  have m1 := mul_bd (a := a.2) (b := b.1 - a.1) (A := 1000) (B := 1000) ⟨by omega, by omega⟩ ⟨by omega, by omega⟩
  have m2 := mul_bd (a := b.2 - a.2) (b := v - a.1) (A := 2000) (B := 1000) ⟨by omega, by omega⟩ ⟨by omega, by omega⟩
  refine ⟨by omega, ⟨by omega, by omega, by omega, by omega, by omega⟩, fun h => ?_, fun h => ⟨by omega, ⟨by omega, by omega, by omega, by omega, by omega, by omega, by omega, by omega⟩, ?_⟩⟩
  · have : (b.1 == v) = true := by simpa using h
    rw [this]; rfl
  · have : (b.1 == v) = false := by simpa using h
    rw [this]; rfl
theorem ok101 : Ok Tryz.prog 101 cLineAt := ok_of_wp mixed g14 (by kernel_rfl) (by kernel_rfl) na fun xx => wp101 xx.1 xx.2.1
abbrev G15 : Gam := (101, cLineAt) :: G14
theorem g15 : GamOk Tryz.prog G15 := .cons ok101 g14
theorem vc114 : ∀ (b : Bool) (e : Int), wpF Tryz.prog G15 (na ()) Tryz.f114 cWhen (b, e, ()) = ((b = true → e = bif b then e else (0 : Int)) ∧ (b = false → (0 : Int) = bif b then e else (0 : Int))) := by
  intros
  kernel_rfl
theorem wp114 (b : Bool) (e : Int) : wpF Tryz.prog G15 (na ()) Tryz.f114 cWhen (b, e, ()) := by
  refine (vc114 b e).mpr ?_
  cases b <;> simp
theorem ok114 : Ok Tryz.prog 114 cWhen := ok_of_wp mixed g15 (by kernel_rfl) (by kernel_rfl) na fun xx => wp114 xx.1 xx.2.1
abbrev G16 : Gam := (114, cWhen) :: G15
theorem g16 : GamOk Tryz.prog G16 := .cons ok114 g15
theorem vc34 : ∀ (n lo hi : Int), wpF Tryz.prog G16 (na ()) Tryz.f34 cWithin (n, lo, hi, ()) = ((bif bif decide (n < lo) then true else decide (hi < n) then (3 : Int) else (0 : Int)) = withinS n lo hi) := by
  intros
  kernel_rfl
theorem wp34 (n lo hi : Int) : wpF Tryz.prog G16 (na ()) Tryz.f34 cWithin (n, lo, hi, ()) := by
  refine (vc34 n lo hi).mpr ?_
  unfold withinS; cases decide (n < lo) <;> rfl
theorem ok34 : Ok Tryz.prog 34 cWithin := ok_of_wp mixed g16 (by kernel_rfl) (by kernel_rfl) na fun xx => wp34 xx.1 xx.2.1 xx.2.2.1
abbrev G17 : Gam := (34, cWithin) :: G16
theorem g17 : GamOk Tryz.prog G17 := .cons ok34 g16
def cRFirst : Con := { args := [.val false (.list 3 sI)], ress := [I], owns := [], pre := fun (l, _) => [l.length ≤ 1000000], spec := fun (l, _) => (firstS l, ()) }
abbrev annRFirst (l : List Int) : Ann := { X := Nat, σ := fun k => ⟨1, [(0, .one (.sl 0)), (3, .one (.int .i64 k))], [(0, .imm 3 sI l)]⟩, inv := fun k => k ≤ l.length ∧ firstS l = firstS (l.drop k), mu := fun k => l.length - k }
theorem vc32 : ∀ (l : List Int), wpF Tryz.prog G17 (ann0 (annRFirst l)) Tryz.f32 cRFirst (l, ()) = (List.length l ≤ (1000000 : Nat) → ∃ (x : Nat), ((0 : Int) = (↑x : Int) ∧ l = l) ∧ (x ≤ List.length l ∧ firstS l = firstS (List.drop x l)) ∧ ∀ (x : Nat), x ≤ List.length l ∧ firstS l = firstS (List.drop x l) → (decide ((↑x : Int) < (↑(List.length l) : Int)) = true → (((0 : Int) ≤ (↑x : Int) ∧ (↑x : Int) < (↑(List.length l) : Int)) ∧ (0 : Int) ≤ (↑x : Int) ∧ (↑x : Int) < (↑(List.length l) : Int)) ∧ ((List.getD l x (0 : Int) != (0 : Int)) = true → (((0 : Int) ≤ (↑x : Int) ∧ (↑x : Int) < (↑(List.length l) : Int)) ∧ (0 : Int) ≤ (↑x : Int) ∧ (↑x : Int) < (↑(List.length l) : Int)) ∧ List.getD l x (0 : Int) = firstS l) ∧ ((List.getD l x (0 : Int) != (0 : Int)) = false → ((-9223372036854775808 : Int) ≤ (↑x : Int) + (1 : Int) ∧ (↑x : Int) + (1 : Int) ≤ (9223372036854775807 : Int)) ∧ ∃ (y : Nat), ((↑x : Int) + (1 : Int) = (↑y : Int) ∧ l = l) ∧ (y ≤ List.length l ∧ firstS l = firstS (List.drop y l)) ∧ List.length l - y < List.length l - x)) ∧ (decide ((↑x : Int) < (↑(List.length l) : Int)) = false → (0 : Int) = firstS l)) := by
  intros
  kernel_rfl
theorem wp32 (l : List Int) : wpF Tryz.prog G17 (ann0 (annRFirst l)) Tryz.f32 cRFirst (l, ()) := by
  refine (vc32 l).mpr ?_
  intro hb
  refine ⟨(0 : Nat), ⟨rfl, rfl⟩, ⟨Nat.zero_le _, rfl⟩, fun (k : Nat) hk => ⟨fun h => ?_, fun h => ?_⟩⟩
  · have hlt : k < l.length := by simpa using h
    have hd := firstS_drop hlt
    refine ⟨by omega, fun h1 => ⟨by omega, ?_⟩, fun h1 => ⟨by omega, (k + 1 : Nat), ⟨by simp, rfl⟩, ⟨by omega, ?_⟩, by omega⟩⟩
    · have h2 : ¬ l.getD k 0 = 0 := by simpa using h1
      rw [hk.2, hd, if_neg h2]
    · have h2 : l.getD k 0 = 0 := by simpa using h1
      rw [hk.2, hd, if_pos h2]
  · have hlt : ¬ k < l.length := by simpa using h
    have : k = l.length := by omega
    rw [hk.2, this, List.drop_length]; rfl
theorem ok32 : Ok Tryz.prog 32 cRFirst := ok_of_wp mixed g17 (by kernel_rfl) (by kernel_rfl) (fun xx => ann0 (annRFirst xx.1)) fun xx => wp32 xx.1
abbrev G18 : Gam := (32, cRFirst) :: G17
theorem g18 : GamOk Tryz.prog G18 := .cons ok32 g17
def cRCheckLine : Con := { args := [aL 132], ress := [I], owns := [], pre := fun _ => [], spec := fun (l, _) => (lineS l, ()) }
abbrev annRCL (l : List (Int × Int)) : Ann := { X := Nat, σ := fun k => ⟨1, [(0, .one (.sl 0)), (3, .one (.int .i64 k))], [(0, .imm 132 sPt l)]⟩, inv := fun k => k ≤ l.length ∧ lineGo l none = lineGo (l.drop k) (lastOf l k) ∧ 2 ≤ l.length ∧ l.length ≤ 8, mu := fun k => l.length - k }
theorem vc25 : ∀ (l : List (Int × Int)), wpF Tryz.prog G18 (ann0 (annRCL l)) Tryz.f25 cRCheckLine (l, ()) = ((decide ((↑(List.length l) : Int) < (2 : Int)) = true → (16 : Int) = lineS l) ∧ (decide ((↑(List.length l) : Int) < (2 : Int)) = false → (decide ((8 : Int) < (↑(List.length l) : Int)) = true → (5 : Int) = lineS l) ∧ (decide ((8 : Int) < (↑(List.length l) : Int)) = false → ∃ (x : Nat), ((0 : Int) = (↑x : Int) ∧ l = l) ∧ (x ≤ List.length l ∧ lineGo l none = lineGo (List.drop x l) (lastOf l x) ∧ (2 : Nat) ≤ List.length l ∧ List.length l ≤ (8 : Nat)) ∧ ∀ (x : Nat), x ≤ List.length l ∧ lineGo l none = lineGo (List.drop x l) (lastOf l x) ∧ (2 : Nat) ≤ List.length l ∧ List.length l ≤ (8 : Nat) → (decide ((↑x : Int) < (↑(List.length l) : Int)) = true → (((0 : Int) ≤ (↑x : Int) ∧ (↑x : Int) < (↑(List.length l) : Int)) ∧ ((0 : Int) ≤ (↑x : Int) ∧ (↑x : Int) < (↑(List.length l) : Int)) ∧ ((0 : Int) ≤ (↑x : Int) ∧ (↑x : Int) < (↑(List.length l) : Int)) ∧ ((0 : Int) ≤ (↑x : Int) ∧ (↑x : Int) < (↑(List.length l) : Int)) ∧ (2 : Nat) ≤ (1000000 : Nat)) ∧ ((firstS [withinS (List.getD l x ((0 : Int), (0 : Int))).fst (0 : Int) (1000 : Int), withinS (List.getD l x ((0 : Int), (0 : Int))).snd (-1000 : Int) (1000 : Int)] != (0 : Int)) = true → firstS [withinS (List.getD l x ((0 : Int), (0 : Int))).fst (0 : Int) (1000 : Int), withinS (List.getD l x ((0 : Int), (0 : Int))).snd (-1000 : Int) (1000 : Int)] = lineS l) ∧ ((firstS [withinS (List.getD l x ((0 : Int), (0 : Int))).fst (0 : Int) (1000 : Int), withinS (List.getD l x ((0 : Int), (0 : Int))).snd (-1000 : Int) (1000 : Int)] != (0 : Int)) = false → ((decide ((0 : Int) < (↑x : Int)) = true → (0 : Int) ≤ (↑x : Int) ∧ (↑x : Int) < (↑(List.length l) : Int)) ∧ (decide ((0 : Int) < (↑x : Int)) = true → (0 : Int) ≤ (↑x : Int) ∧ (↑x : Int) < (↑(List.length l) : Int)) ∧ (decide ((0 : Int) < (↑x : Int)) = true → (-9223372036854775808 : Int) ≤ (↑x : Int) - (1 : Int) ∧ (↑x : Int) - (1 : Int) ≤ (9223372036854775807 : Int)) ∧ (decide ((0 : Int) < (↑x : Int)) = true → (0 : Int) ≤ (↑x : Int) - (1 : Int) ∧ (↑x : Int) - (1 : Int) < (↑(List.length l) : Int)) ∧ (decide ((0 : Int) < (↑x : Int)) = true → (0 : Int) ≤ (↑x : Int) - (1 : Int) ∧ (↑x : Int) - (1 : Int) < (↑(List.length l) : Int)) ∧ (decide ((0 : Int) < (↑x : Int)) = true ∧ decide ((List.getD l x ((0 : Int), (0 : Int))).fst ≤ (List.getD l (Int.toNat ((↑x : Int) - (1 : Int))) ((0 : Int), (0 : Int))).fst) = false → (0 : Int) ≤ (↑x : Int) ∧ (↑x : Int) < (↑(List.length l) : Int)) ∧ (decide ((0 : Int) < (↑x : Int)) = true ∧ decide ((List.getD l x ((0 : Int), (0 : Int))).fst ≤ (List.getD l (Int.toNat ((↑x : Int) - (1 : Int))) ((0 : Int), (0 : Int))).fst) = false → (0 : Int) ≤ (↑x : Int) ∧ (↑x : Int) < (↑(List.length l) : Int)) ∧ (decide ((0 : Int) < (↑x : Int)) = true ∧ decide ((List.getD l x ((0 : Int), (0 : Int))).fst ≤ (List.getD l (Int.toNat ((↑x : Int) - (1 : Int))) ((0 : Int), (0 : Int))).fst) = false → (-9223372036854775808 : Int) ≤ (↑x : Int) - (1 : Int) ∧ (↑x : Int) - (1 : Int) ≤ (9223372036854775807 : Int)) ∧ (decide ((0 : Int) < (↑x : Int)) = true ∧ decide ((List.getD l x ((0 : Int), (0 : Int))).fst ≤ (List.getD l (Int.toNat ((↑x : Int) - (1 : Int))) ((0 : Int), (0 : Int))).fst) = false → (0 : Int) ≤ (↑x : Int) - (1 : Int) ∧ (↑x : Int) - (1 : Int) < (↑(List.length l) : Int)) ∧ (decide ((0 : Int) < (↑x : Int)) = true ∧ decide ((List.getD l x ((0 : Int), (0 : Int))).fst ≤ (List.getD l (Int.toNat ((↑x : Int) - (1 : Int))) ((0 : Int), (0 : Int))).fst) = false → (0 : Int) ≤ (↑x : Int) - (1 : Int) ∧ (↑x : Int) - (1 : Int) < (↑(List.length l) : Int))) ∧ ((bif decide ((0 : Int) < (↑x : Int)) then bif decide ((List.getD l x ((0 : Int), (0 : Int))).fst ≤ (List.getD l (Int.toNat ((↑x : Int) - (1 : Int))) ((0 : Int), (0 : Int))).fst) then true else decide ((List.getD l (Int.toNat ((↑x : Int) - (1 : Int))) ((0 : Int), (0 : Int))).snd ≤ (List.getD l x ((0 : Int), (0 : Int))).snd) else false) = true → (11 : Int) = lineS l) ∧ ((bif decide ((0 : Int) < (↑x : Int)) then bif decide ((List.getD l x ((0 : Int), (0 : Int))).fst ≤ (List.getD l (Int.toNat ((↑x : Int) - (1 : Int))) ((0 : Int), (0 : Int))).fst) then true else decide ((List.getD l (Int.toNat ((↑x : Int) - (1 : Int))) ((0 : Int), (0 : Int))).snd ≤ (List.getD l x ((0 : Int), (0 : Int))).snd) else false) = false → ((-9223372036854775808 : Int) ≤ (↑x : Int) + (1 : Int) ∧ (↑x : Int) + (1 : Int) ≤ (9223372036854775807 : Int)) ∧ ∃ (y : Nat), ((↑x : Int) + (1 : Int) = (↑y : Int) ∧ l = l) ∧ (y ≤ List.length l ∧ lineGo l none = lineGo (List.drop y l) (lastOf l y) ∧ (2 : Nat) ≤ List.length l ∧ List.length l ≤ (8 : Nat)) ∧ List.length l - y < List.length l - x))) ∧ (decide ((↑x : Int) < (↑(List.length l) : Int)) = false → (0 : Int) = lineS l)))) := by
  intros
  kernel_rfl
theorem wp25 (l : List (Int × Int)) : wpF Tryz.prog G18 (ann0 (annRCL l)) Tryz.f25 cRCheckLine (l, ()) := by
  refine (vc25 l).mpr ?_
  refine ⟨fun h => ?_, fun h => ⟨fun h' => ?_, fun h' => ?_⟩⟩
  · have h1 : l.length < 2 := by have : (l.length : Int) < 2 := by simpa using h
                                 omega
    simp only [lineS, if_pos h1]
  · have h1 : ¬ l.length < 2 := by have : ¬ (l.length : Int) < 2 := by simpa using h
                                   omega
    have h2 : 8 < l.length := by have : 8 < (l.length : Int) := by simpa using h'
                                 omega
    simp only [lineS, if_neg h1, if_pos h2]
  · have h1 : ¬ l.length < 2 := by have : ¬ (l.length : Int) < 2 := by simpa using h
                                   omega
    have h2 : ¬ 8 < l.length := by have : ¬ 8 < (l.length : Int) := by simpa using h'
                                   omega
    have hl : lineS l = lineGo l none := by simp only [lineS, if_neg h1, if_neg h2]
    refine ⟨(0 : Nat), ⟨rfl, rfl⟩, ⟨Nat.zero_le _, rfl, by omega, by omega⟩, fun (k : Nat) hk => ⟨fun h => ?_, fun h => ?_⟩⟩
    · have hlt : k < l.length := by simpa using h
      have hd := lineGo_drop hlt
      simp only at hd
      have ek : ((k : Int) - 1).toNat = k - 1 := by omega
      rw [← hk.2.1] at hd
      rw [ek]
      refine ⟨by omega, fun h3 => ?_, fun h3 => ⟨?_, fun h4 => ?_, fun h4 => ?_⟩⟩
      · rw [hl, hd, if_pos (by simpa using h3)]
      · simp only [decide_eq_true_eq, decide_eq_false_iff_not]
        refine ⟨?_, ?_, ?_, ?_, ?_, ?_, ?_, ?_, ?_, ?_⟩ <;> intro h5 <;> omega
      · have h3' : firstS [withinS (l.getD k (0, 0)).1 0 1000, withinS (l.getD k (0, 0)).2 (-1000) 1000] = 0 := by simpa using h3
        rw [hl, hd, h3', if_neg (by simp), if_pos ?_]
        revert h4
        by_cases hk0 : 0 < k
        · by_cases hp : (l.getD k (0, 0)).1 ≤ (l.getD (k - 1) (0, 0)).1 <;> simp [hk0, hp]
        · simp [hk0]
      · refine ⟨by omega, (k + 1 : Nat), ⟨by simp, rfl⟩, ⟨by omega, ?_, by omega, by omega⟩, by omega⟩
        have h3' : firstS [withinS (l.getD k (0, 0)).1 0 1000, withinS (l.getD k (0, 0)).2 (-1000) 1000] = 0 := by simpa using h3
        rw [hd, h3', if_neg (by simp), if_neg ?_]
        revert h4
        by_cases hk0 : 0 < k
        · by_cases hp : (l.getD k (0, 0)).1 ≤ (l.getD (k - 1) (0, 0)).1 <;> simp [hk0, hp]
        · simp [hk0]
    · have hlt : ¬ k < l.length := by simpa using h
      have : k = l.length := by omega
      rw [hl, hk.2.1, this, List.drop_length]
      simp [lineGo]
theorem ok25 : Ok Tryz.prog 25 cRCheckLine := ok_of_wp mixed g18 (by kernel_rfl) (by kernel_rfl) (fun xx => ann0 (annRCL xx.1)) fun xx => wp25 xx.1
abbrev G19 : Gam := (25, cRCheckLine) :: G18
theorem g19 : GamOk Tryz.prog G19 := .cons ok25 g18
def hasS (l : List (Int × Int)) (v : Int) : Bool := decide ((l.getD 0 (0, 0)).1 ≤ v) && decide (v ≤ (l.getD (l.length - 1) (0, 0)).1)
def cRHas : Con := { args := [aL 132, aI], ress := [Bo], owns := [], pre := fun (l, _, _) => [0 < l.length, l.length ≤ 1000000], spec := fun (l, v, _) => (hasS l v, ()) }
theorem vc104 : ∀ (l : List (Int × Int)) (v : Int), wpF Tryz.prog G19 (na ()) Tryz.f104 cRHas (l, v, ()) = ((0 : Nat) < List.length l → List.length l ≤ (1000000 : Nat) → (((0 : Int) ≤ (0 : Int) ∧ (0 : Int) < (↑(List.length l) : Int)) ∧ ((0 : Int) ≤ (0 : Int) ∧ (0 : Int) < (↑(List.length l) : Int)) ∧ (decide ((List.getD l (0 : Nat) ((0 : Int), (0 : Int))).fst ≤ v) = true → (-9223372036854775808 : Int) ≤ (↑(List.length l) : Int) - (1 : Int) ∧ (↑(List.length l) : Int) - (1 : Int) ≤ (9223372036854775807 : Int)) ∧ (decide ((List.getD l (0 : Nat) ((0 : Int), (0 : Int))).fst ≤ v) = true → (0 : Int) ≤ (↑(List.length l) : Int) - (1 : Int) ∧ (↑(List.length l) : Int) - (1 : Int) < (↑(List.length l) : Int)) ∧ (decide ((List.getD l (0 : Nat) ((0 : Int), (0 : Int))).fst ≤ v) = true → (0 : Int) ≤ (↑(List.length l) : Int) - (1 : Int) ∧ (↑(List.length l) : Int) - (1 : Int) < (↑(List.length l) : Int))) ∧ (bif decide ((List.getD l (0 : Nat) ((0 : Int), (0 : Int))).fst ≤ v) then decide (v ≤ (List.getD l (Int.toNat ((↑(List.length l) : Int) - (1 : Int))) ((0 : Int), (0 : Int))).fst) else false) = hasS l v) := by
  intros
  kernel_rfl
theorem wp104 (l : List (Int × Int)) (v : Int) : wpF Tryz.prog G19 (na ()) Tryz.f104 cRHas (l, v, ()) := by
  refine (vc104 l v).mpr ?_
  intro h1 h2
  have ek : ((l.length : Int) - 1).toNat = l.length - 1 := by omega
  rw [ek]
  refine ⟨⟨by omega, by omega, fun _ => by omega, fun _ => by omega, fun _ => by omega⟩, ?_⟩
  simp only [hasS, Int.toNat_zero]
  cases decide ((l.getD 0 (0, 0)).1 ≤ v) <;> rfl
theorem ok104 : Ok Tryz.prog 104 cRHas := ok_of_wp mixed g19 (by kernel_rfl) (by kernel_rfl) na fun xx => wp104 xx.1 xx.2.1
abbrev G20 : Gam := (104, cRHas) :: G19
theorem g20 : GamOk Tryz.prog G20 := .cons ok104 g19
def cPoints : Con := { args := [aL 176], ress := [(false, .list 132 sPt)], owns := [true], pre := fun (l, _) => [l.length ≤ 1000000], spec := fun (l, _) => (l, ()) }
abbrev annCopy (T U : TypeId) (l : List (Int × Int)) : Ann := { X := Nat, σ := fun k => ⟨2, [(3, .one (.sl 1)), (6, .one (.sl 0)), (7, .one (.int .i64 l.length)), (8, .one (.int .i64 k))], [(0, .imm T sPt l), (1, .own U sPt (l.take k))]⟩, inv := fun k => k ≤ l.length, mu := fun k => l.length - k }
theorem take_snoc {α : Type} {l : List α} {k : Nat} {d : α} (h : k < l.length) : l.take k ++ [l.getD k d] = l.take (k + 1) := by
  rw [List.take_succ_eq_append_getElem h]
  simp [List.getD_eq_getElem?_getD, h]
theorem vc27 : ∀ (l : List (Int × Int)), wpF Tryz.prog G20 (ann0 (annCopy (176 : TypeId) (132 : TypeId) l)) Tryz.f27 cPoints (l, ()) = (List.length l ≤ (1000000 : Nat) → ∃ (x : Nat), ((↑(List.length l) : Int) = (↑(List.length l) : Int) ∧ (0 : Int) = (↑x : Int) ∧ l = l ∧ List.length (List.take x l) = (0 : Nat)) ∧ x ≤ List.length l ∧ ∀ (x : Nat), x ≤ List.length l → (decide ((↑x : Int) < (↑(List.length l) : Int)) = true → (((0 : Int) ≤ (↑x : Int) ∧ (↑x : Int) < (↑(List.length l) : Int)) ∧ (0 : Int) ≤ (↑x : Int) ∧ (↑x : Int) < (↑(List.length l) : Int)) ∧ (List.length (List.take x l) + (1 : Nat)) * (16 : Nat) ≤ (140737488355328 : Nat) ∧ ((-9223372036854775808 : Int) ≤ (↑x : Int) + (1 : Int) ∧ (↑x : Int) + (1 : Int) ≤ (9223372036854775807 : Int)) ∧ ∃ (y : Nat), ((↑(List.length l) : Int) = (↑(List.length l) : Int) ∧ (↑x : Int) + (1 : Int) = (↑y : Int) ∧ l = l ∧ List.take x l ++ [((List.getD l x ((0 : Int), (0 : Int))).fst, (List.getD l x ((0 : Int), (0 : Int))).snd)] = List.take y l) ∧ y ≤ List.length l ∧ List.length l - y < List.length l - x) ∧ (decide ((↑x : Int) < (↑(List.length l) : Int)) = false → List.take x l = l)) := by
  intros
  kernel_rfl
theorem wp27 (l : List (Int × Int)) : wpF Tryz.prog G20 (ann0 (annCopy 176 132 l)) Tryz.f27 cPoints (l, ()) := by
  refine (vc27 l).mpr ?_
  intro hb
  refine ⟨(0 : Nat), ⟨rfl, rfl, rfl, by simp⟩, Nat.zero_le _, fun (k : Nat) hk => ⟨fun h => ?_, fun h => ?_⟩⟩
  · have hlt : k < l.length := by simpa using h
    refine ⟨by omega, by simp only [List.length_take]; omega, by omega, (k + 1 : Nat), ⟨rfl, by simp, rfl, ?_⟩, by omega, by omega⟩
    exact take_snoc hlt
  · have hlt : ¬ k < l.length := by simpa using h
    exact List.take_of_length_le (by omega)
theorem ok27 : Ok Tryz.prog 27 cPoints := ok_of_wp mixed g20 (by kernel_rfl) (by kernel_rfl) (fun xx => ann0 (annCopy 176 132 xx.1)) fun xx => wp27 xx.1
abbrev G21 : Gam := (27, cPoints) :: G20
theorem g21 : GamOk Tryz.prog G21 := .cons ok27 g20

def cCopy18 : Con := { args := [aL 132], ress := [(false, .list 176 sPt)], owns := [true], pre := fun (l, _) => [l.length ≤ 1000000], spec := fun (l, _) => (l, ()) }
theorem vc18 : ∀ (l : List (Int × Int)), wpF Tryz.prog G21 (ann0 (annCopy (132 : TypeId) (176 : TypeId) l)) Tryz.f18 cCopy18 (l, ()) = (List.length l ≤ (1000000 : Nat) → ∃ (x : Nat), ((↑(List.length l) : Int) = (↑(List.length l) : Int) ∧ (0 : Int) = (↑x : Int) ∧ l = l ∧ List.length (List.take x l) = (0 : Nat)) ∧ x ≤ List.length l ∧ ∀ (x : Nat), x ≤ List.length l → (decide ((↑x : Int) < (↑(List.length l) : Int)) = true → (((0 : Int) ≤ (↑x : Int) ∧ (↑x : Int) < (↑(List.length l) : Int)) ∧ (0 : Int) ≤ (↑x : Int) ∧ (↑x : Int) < (↑(List.length l) : Int)) ∧ (List.length (List.take x l) + (1 : Nat)) * (16 : Nat) ≤ (140737488355328 : Nat) ∧ ((-9223372036854775808 : Int) ≤ (↑x : Int) + (1 : Int) ∧ (↑x : Int) + (1 : Int) ≤ (9223372036854775807 : Int)) ∧ ∃ (y : Nat), ((↑(List.length l) : Int) = (↑(List.length l) : Int) ∧ (↑x : Int) + (1 : Int) = (↑y : Int) ∧ l = l ∧ List.take x l ++ [((List.getD l x ((0 : Int), (0 : Int))).fst, (List.getD l x ((0 : Int), (0 : Int))).snd)] = List.take y l) ∧ y ≤ List.length l ∧ List.length l - y < List.length l - x) ∧ (decide ((↑x : Int) < (↑(List.length l) : Int)) = false → List.take x l = l)) := by
  intros
  kernel_rfl
theorem wp18 (l : List (Int × Int)) : wpF Tryz.prog G21 (ann0 (annCopy 132 176 l)) Tryz.f18 cCopy18 (l, ()) := by
  refine (vc18 l).mpr ?_
  intro hb
  refine ⟨(0 : Nat), ⟨rfl, rfl, rfl, by simp⟩, Nat.zero_le _, fun (k : Nat) hk => ⟨fun h => ?_, fun h => ?_⟩⟩
  · have hlt : k < l.length := by simpa using h
    refine ⟨by omega, by simp only [List.length_take]; omega, by omega, (k + 1 : Nat), ⟨rfl, by simp, rfl, ?_⟩, by omega, by omega⟩
    exact take_snoc hlt
  · have hlt : ¬ k < l.length := by simpa using h
    exact List.take_of_length_le (by omega)
theorem ok18 : Ok Tryz.prog 18 cCopy18 := ok_of_wp mixed g21 (by kernel_rfl) (by kernel_rfl) (fun xx => ann0 (annCopy 132 176 xx.1)) fun xx => wp18 xx.1
abbrev G22 : Gam := (18, cCopy18) :: G21
theorem g22 : GamOk Tryz.prog G22 := .cons ok18 g21
def cCopy54 : Con := { args := [aL 142], ress := [(false, .list 172 sPt)], owns := [true], pre := fun (l, _) => [l.length ≤ 1000000], spec := fun (l, _) => (l, ()) }
theorem vc54 : ∀ (l : List (Int × Int)), wpF Tryz.prog G22 (ann0 (annCopy (142 : TypeId) (172 : TypeId) l)) Tryz.f54 cCopy54 (l, ()) = (List.length l ≤ (1000000 : Nat) → ∃ (x : Nat), ((↑(List.length l) : Int) = (↑(List.length l) : Int) ∧ (0 : Int) = (↑x : Int) ∧ l = l ∧ List.length (List.take x l) = (0 : Nat)) ∧ x ≤ List.length l ∧ ∀ (x : Nat), x ≤ List.length l → (decide ((↑x : Int) < (↑(List.length l) : Int)) = true → (((0 : Int) ≤ (↑x : Int) ∧ (↑x : Int) < (↑(List.length l) : Int)) ∧ (0 : Int) ≤ (↑x : Int) ∧ (↑x : Int) < (↑(List.length l) : Int)) ∧ (List.length (List.take x l) + (1 : Nat)) * (16 : Nat) ≤ (140737488355328 : Nat) ∧ ((-9223372036854775808 : Int) ≤ (↑x : Int) + (1 : Int) ∧ (↑x : Int) + (1 : Int) ≤ (9223372036854775807 : Int)) ∧ ∃ (y : Nat), ((↑(List.length l) : Int) = (↑(List.length l) : Int) ∧ (↑x : Int) + (1 : Int) = (↑y : Int) ∧ l = l ∧ List.take x l ++ [((List.getD l x ((0 : Int), (0 : Int))).fst, (List.getD l x ((0 : Int), (0 : Int))).snd)] = List.take y l) ∧ y ≤ List.length l ∧ List.length l - y < List.length l - x) ∧ (decide ((↑x : Int) < (↑(List.length l) : Int)) = false → List.take x l = l)) := by
  intros
  kernel_rfl
theorem wp54 (l : List (Int × Int)) : wpF Tryz.prog G22 (ann0 (annCopy 142 172 l)) Tryz.f54 cCopy54 (l, ()) := by
  refine (vc54 l).mpr ?_
  intro hb
  refine ⟨(0 : Nat), ⟨rfl, rfl, rfl, by simp⟩, Nat.zero_le _, fun (k : Nat) hk => ⟨fun h => ?_, fun h => ?_⟩⟩
  · have hlt : k < l.length := by simpa using h
    refine ⟨by omega, by simp only [List.length_take]; omega, by omega, (k + 1 : Nat), ⟨rfl, by simp, rfl, ?_⟩, by omega, by omega⟩
    exact take_snoc hlt
  · have hlt : ¬ k < l.length := by simpa using h
    exact List.take_of_length_le (by omega)
theorem ok54 : Ok Tryz.prog 54 cCopy54 := ok_of_wp mixed g22 (by kernel_rfl) (by kernel_rfl) (fun xx => ann0 (annCopy 142 172 xx.1)) fun xx => wp54 xx.1
abbrev G23 : Gam := (54, cCopy54) :: G22
theorem g23 : GamOk Tryz.prog G23 := .cons ok54 g22
def cCopy59 : Con := { args := [aL 172], ress := [(false, .list 142 sPt)], owns := [true], pre := fun (l, _) => [l.length ≤ 1000000], spec := fun (l, _) => (l, ()) }
theorem vc59 : ∀ (l : List (Int × Int)), wpF Tryz.prog G23 (ann0 (annCopy (172 : TypeId) (142 : TypeId) l)) Tryz.f59 cCopy59 (l, ()) = (List.length l ≤ (1000000 : Nat) → ∃ (x : Nat), ((↑(List.length l) : Int) = (↑(List.length l) : Int) ∧ (0 : Int) = (↑x : Int) ∧ l = l ∧ List.length (List.take x l) = (0 : Nat)) ∧ x ≤ List.length l ∧ ∀ (x : Nat), x ≤ List.length l → (decide ((↑x : Int) < (↑(List.length l) : Int)) = true → (((0 : Int) ≤ (↑x : Int) ∧ (↑x : Int) < (↑(List.length l) : Int)) ∧ (0 : Int) ≤ (↑x : Int) ∧ (↑x : Int) < (↑(List.length l) : Int)) ∧ (List.length (List.take x l) + (1 : Nat)) * (16 : Nat) ≤ (140737488355328 : Nat) ∧ ((-9223372036854775808 : Int) ≤ (↑x : Int) + (1 : Int) ∧ (↑x : Int) + (1 : Int) ≤ (9223372036854775807 : Int)) ∧ ∃ (y : Nat), ((↑(List.length l) : Int) = (↑(List.length l) : Int) ∧ (↑x : Int) + (1 : Int) = (↑y : Int) ∧ l = l ∧ List.take x l ++ [((List.getD l x ((0 : Int), (0 : Int))).fst, (List.getD l x ((0 : Int), (0 : Int))).snd)] = List.take y l) ∧ y ≤ List.length l ∧ List.length l - y < List.length l - x) ∧ (decide ((↑x : Int) < (↑(List.length l) : Int)) = false → List.take x l = l)) := by
  intros
  kernel_rfl
theorem wp59 (l : List (Int × Int)) : wpF Tryz.prog G23 (ann0 (annCopy 172 142 l)) Tryz.f59 cCopy59 (l, ()) := by
  refine (vc59 l).mpr ?_
  intro hb
  refine ⟨(0 : Nat), ⟨rfl, rfl, rfl, by simp⟩, Nat.zero_le _, fun (k : Nat) hk => ⟨fun h => ?_, fun h => ?_⟩⟩
  · have hlt : k < l.length := by simpa using h
    refine ⟨by omega, by simp only [List.length_take]; omega, by omega, (k + 1 : Nat), ⟨rfl, by simp, rfl, ?_⟩, by omega, by omega⟩
    exact take_snoc hlt
  · have hlt : ¬ k < l.length := by simpa using h
    exact List.take_of_length_le (by omega)
theorem ok59 : Ok Tryz.prog 59 cCopy59 := ok_of_wp mixed g23 (by kernel_rfl) (by kernel_rfl) (fun xx => ann0 (annCopy 172 142 xx.1)) fun xx => wp59 xx.1
abbrev G24 : Gam := (59, cCopy59) :: G23
theorem g24 : GamOk Tryz.prog G24 := .cons ok59 g23
def cCopy75 : Con := { args := [aL 121], ress := [(false, .list 116 sPt)], owns := [true], pre := fun (l, _) => [l.length ≤ 1000000], spec := fun (l, _) => (l, ()) }
theorem vc75 : ∀ (l : List (Int × Int)), wpF Tryz.prog G24 (ann0 (annCopy (121 : TypeId) (116 : TypeId) l)) Tryz.f75 cCopy75 (l, ()) = (List.length l ≤ (1000000 : Nat) → ∃ (x : Nat), ((↑(List.length l) : Int) = (↑(List.length l) : Int) ∧ (0 : Int) = (↑x : Int) ∧ l = l ∧ List.length (List.take x l) = (0 : Nat)) ∧ x ≤ List.length l ∧ ∀ (x : Nat), x ≤ List.length l → (decide ((↑x : Int) < (↑(List.length l) : Int)) = true → (((0 : Int) ≤ (↑x : Int) ∧ (↑x : Int) < (↑(List.length l) : Int)) ∧ (0 : Int) ≤ (↑x : Int) ∧ (↑x : Int) < (↑(List.length l) : Int)) ∧ (List.length (List.take x l) + (1 : Nat)) * (16 : Nat) ≤ (140737488355328 : Nat) ∧ ((-9223372036854775808 : Int) ≤ (↑x : Int) + (1 : Int) ∧ (↑x : Int) + (1 : Int) ≤ (9223372036854775807 : Int)) ∧ ∃ (y : Nat), ((↑(List.length l) : Int) = (↑(List.length l) : Int) ∧ (↑x : Int) + (1 : Int) = (↑y : Int) ∧ l = l ∧ List.take x l ++ [((List.getD l x ((0 : Int), (0 : Int))).fst, (List.getD l x ((0 : Int), (0 : Int))).snd)] = List.take y l) ∧ y ≤ List.length l ∧ List.length l - y < List.length l - x) ∧ (decide ((↑x : Int) < (↑(List.length l) : Int)) = false → List.take x l = l)) := by
  intros
  kernel_rfl
theorem wp75 (l : List (Int × Int)) : wpF Tryz.prog G24 (ann0 (annCopy 121 116 l)) Tryz.f75 cCopy75 (l, ()) := by
  refine (vc75 l).mpr ?_
  intro hb
  refine ⟨(0 : Nat), ⟨rfl, rfl, rfl, by simp⟩, Nat.zero_le _, fun (k : Nat) hk => ⟨fun h => ?_, fun h => ?_⟩⟩
  · have hlt : k < l.length := by simpa using h
    refine ⟨by omega, by simp only [List.length_take]; omega, by omega, (k + 1 : Nat), ⟨rfl, by simp, rfl, ?_⟩, by omega, by omega⟩
    exact take_snoc hlt
  · have hlt : ¬ k < l.length := by simpa using h
    exact List.take_of_length_le (by omega)
theorem ok75 : Ok Tryz.prog 75 cCopy75 := ok_of_wp mixed g24 (by kernel_rfl) (by kernel_rfl) (fun xx => ann0 (annCopy 121 116 xx.1)) fun xx => wp75 xx.1
abbrev G25 : Gam := (75, cCopy75) :: G24
theorem g25 : GamOk Tryz.prog G25 := .cons ok75 g24
def cLines : Con := { args := [.val false (.list 22 (.list 132 sPt))], ress := [(false, .list 30 (.list 176 sPt))], owns := [true], pre := fun (l, _) => [l.length ≤ 1000000, ∀ x ∈ l, x.length ≤ 1000000], spec := fun (l, _) => (l, ()) }
abbrev annLines (l : List (List (Int × Int))) : Ann := { X := Nat, σ := fun k => ⟨2, [(3, .one (.sl 1)), (6, .one (.sl 0)), (7, .one (.int .i64 l.length)), (8, .one (.int .i64 k))], [(0, .imm 22 (.list 132 sPt) l), (1, .own 30 (.list 176 sPt) (l.take k))]⟩, inv := fun k => k ≤ l.length, mu := fun k => l.length - k }
theorem vc30 : ∀ (l : List (List (Int × Int))), wpF Tryz.prog G25 (ann0 (annLines l)) Tryz.f30 cLines (l, ()) = (List.length l ≤ (1000000 : Nat) → (∀ (x : List (Int × Int)), x ∈ l → List.length x ≤ (1000000 : Nat)) → ∃ (x : Nat), ((↑(List.length l) : Int) = (↑(List.length l) : Int) ∧ (0 : Int) = (↑x : Int) ∧ l = l ∧ List.length (List.take x l) = (0 : Nat)) ∧ x ≤ List.length l ∧ ∀ (x : Nat), x ≤ List.length l → (decide ((↑x : Int) < (↑(List.length l) : Int)) = true → (((0 : Int) ≤ (↑x : Int) ∧ (↑x : Int) < (↑(List.length l) : Int)) ∧ (0 : Int) ≤ (↑x : Int) ∧ (↑x : Int) < (↑(List.length l) : Int)) ∧ (List.length (List.getD l x []) ≤ (1000000 : Nat) ∧ (List.length (List.take x l) + (1 : Nat)) * (24 : Nat) ≤ (140737488355328 : Nat)) ∧ ((-9223372036854775808 : Int) ≤ (↑x : Int) + (1 : Int) ∧ (↑x : Int) + (1 : Int) ≤ (9223372036854775807 : Int)) ∧ ∃ (y : Nat), ((↑(List.length l) : Int) = (↑(List.length l) : Int) ∧ (↑x : Int) + (1 : Int) = (↑y : Int) ∧ l = l ∧ List.take x l ++ [List.getD l x []] = List.take y l) ∧ y ≤ List.length l ∧ List.length l - y < List.length l - x) ∧ (decide ((↑x : Int) < (↑(List.length l) : Int)) = false → List.take x l = l)) := by
  intros
  kernel_rfl
theorem wp30 (l : List (List (Int × Int))) : wpF Tryz.prog G25 (ann0 (annLines l)) Tryz.f30 cLines (l, ()) := by
  refine (vc30 l).mpr ?_
  intro hb hl
  refine ⟨(0 : Nat), ⟨rfl, rfl, rfl, by simp⟩, Nat.zero_le _, fun (k : Nat) hk => ⟨fun h => ?_, fun h => ?_⟩⟩
  · have hlt : k < l.length := by simpa using h
    refine ⟨by omega, ⟨?_, by simp only [List.length_take]; omega⟩, by omega, (k + 1 : Nat), ⟨rfl, by simp, rfl, ?_⟩, by omega, by omega⟩
    · show (l.getD k []).length ≤ 1000000
      exact hl _ (getD_mem hlt)
    · show l.take k ++ [l.getD k []] = l.take (k + 1)
      exact take_snoc hlt
  · have hlt : ¬ k < l.length := by simpa using h
    exact List.take_of_length_le (by omega)
theorem ok30 : Ok Tryz.prog 30 cLines := ok_of_wp mixed g25 (by kernel_rfl) (by kernel_rfl) (fun xx => ann0 (annLines xx.1)) fun xx => wp30 xx.1
abbrev G26 : Gam := (30, cLines) :: G25
theorem g26 : GamOk Tryz.prog G26 := .cons ok30 g25
def cInts : Con := { args := [.val false (.list 3 sI)], ress := [(false, .list 3 sI)], owns := [true], pre := fun (l, _) => [l.length ≤ 1000000], spec := fun (l, _) => (l, ()) }
theorem vc43 : ∀ (l : List Int), wpF Tryz.prog G26 (na ()) Tryz.f43 cInts (l, ()) = (List.length l ≤ (1000000 : Nat) → ((0 : Nat) + List.length l) * (8 : Nat) ≤ (140737488355328 : Nat) ∧ l = l) := by
  intros
  kernel_rfl
theorem wp43 (l : List Int) : wpF Tryz.prog G26 (na ()) Tryz.f43 cInts (l, ()) := by
  refine (vc43 l).mpr ?_
  intro hb
  exact ⟨by omega, rfl⟩
theorem ok43 : Ok Tryz.prog 43 cInts := ok_of_wp mixed g26 (by kernel_rfl) (by kernel_rfl) na fun xx => wp43 xx.1
abbrev G27 : Gam := (43, cInts) :: G26
theorem g27 : GamOk Tryz.prog G27 := .cons ok43 g26
def cSameLine : Con := { args := [aL 132, aL 132], ress := [Bo], owns := [], pre := fun (a, b, _) => [a.length ≤ 1000000], spec := fun (a, b, _) => (decide (a = b), ()) }
abbrev annSame (T : TypeId) (s : Sch) (a b : List s.T) (J : Nat → Prop) : Ann := { X := Nat, σ := fun k => ⟨2, [(0, .one (.sl 0)), (1, .one (.sl 1)), (5, .one (.int .i64 k))], [(0, .imm T s a), (1, .imm T s b)]⟩, inv := fun k => k ≤ a.length ∧ a.length = b.length ∧ J k, mu := fun k => a.length - k }
theorem same_step {α : Type} {a b : List α} {k : Nat} {d : α} (h : a.take k = b.take k) (hl : a.length = b.length) (hk : k < a.length) (he : a.getD k d = b.getD k d) : a.take (k + 1) = b.take (k + 1) := by
  rw [← take_snoc (d := d) hk, ← take_snoc (d := d) (by omega), h, he]
theorem vc26 : ∀ (a b : List (Int × Int)), wpF Tryz.prog G27 (ann0 (annSame (132 : TypeId) sPt a b fun (k : Nat) => List.take k a = List.take k b)) Tryz.f26 cSameLine (a, b, ()) = (List.length a ≤ (1000000 : Nat) → (((↑(List.length a) : Int) != (↑(List.length b) : Int)) = true → false = decide (a = b)) ∧ (((↑(List.length a) : Int) != (↑(List.length b) : Int)) = false → ∃ (x : Nat), ((0 : Int) = (↑x : Int) ∧ a = a ∧ b = b) ∧ (x ≤ List.length a ∧ List.length a = List.length b ∧ List.take x a = List.take x b) ∧ ∀ (x : Nat), x ≤ List.length a ∧ List.length a = List.length b ∧ List.take x a = List.take x b → (decide ((↑x : Int) < (↑(List.length a) : Int)) = true → (((0 : Int) ≤ (↑x : Int) ∧ (↑x : Int) < (↑(List.length a) : Int)) ∧ ((0 : Int) ≤ (↑x : Int) ∧ (↑x : Int) < (↑(List.length a) : Int)) ∧ ((0 : Int) ≤ (↑x : Int) ∧ (↑x : Int) < (↑(List.length b) : Int)) ∧ (0 : Int) ≤ (↑x : Int) ∧ (↑x : Int) < (↑(List.length b) : Int)) ∧ ((!((List.getD a x ((0 : Int), (0 : Int))).fst == (List.getD b x ((0 : Int), (0 : Int))).fst && ((List.getD a x ((0 : Int), (0 : Int))).snd == (List.getD b x ((0 : Int), (0 : Int))).snd && true))) = true → false = decide (a = b)) ∧ ((!((List.getD a x ((0 : Int), (0 : Int))).fst == (List.getD b x ((0 : Int), (0 : Int))).fst && ((List.getD a x ((0 : Int), (0 : Int))).snd == (List.getD b x ((0 : Int), (0 : Int))).snd && true))) = false → ((-9223372036854775808 : Int) ≤ (↑x : Int) + (1 : Int) ∧ (↑x : Int) + (1 : Int) ≤ (9223372036854775807 : Int)) ∧ ∃ (y : Nat), ((↑x : Int) + (1 : Int) = (↑y : Int) ∧ a = a ∧ b = b) ∧ (y ≤ List.length a ∧ List.length a = List.length b ∧ List.take y a = List.take y b) ∧ List.length a - y < List.length a - x)) ∧ (decide ((↑x : Int) < (↑(List.length a) : Int)) = false → true = decide (a = b)))) := by
  intros
  kernel_rfl
theorem wp26 (a b : List (Int × Int)) : wpF Tryz.prog G27 (ann0 (annSame 132 sPt a b fun k => a.take k = b.take k)) Tryz.f26 cSameLine (a, b, ()) := by
  refine (vc26 a b).mpr ?_
  intro hb
  refine ⟨fun h => ?_, fun h => ?_⟩
  · have hne : ¬ a.length = b.length := by intro e; rw [e] at h; simp at h
    have : ¬ a = b := by rintro rfl; exact hne rfl
    simp [this]
  · have hlen : a.length = b.length := by
      have : (a.length : Int) = b.length := by simpa using h
      omega
    refine ⟨(0 : Nat), ⟨rfl, rfl, rfl⟩, ⟨Nat.zero_le _, hlen, rfl⟩, fun (k : Nat) hk => ⟨fun h => ?_, fun h => ?_⟩⟩
    · have hlt : k < a.length := by simpa using h
      refine ⟨by omega, fun h1 => ?_, fun h1 => ⟨by omega, (k + 1 : Nat), ⟨by simp, rfl, rfl⟩, ⟨by omega, hlen, ?_⟩, by omega⟩⟩
      · have : ¬ a = b := by rintro rfl; simp at h1
        simp [this]
      · have he : a.getD k (0, 0) = b.getD k (0, 0) := by
          have h2 : (a.getD k (0, 0)).1 = (b.getD k (0, 0)).1 ∧ (a.getD k (0, 0)).2 = (b.getD k (0, 0)).2 := by simpa using h1
          exact Prod.ext h2.1 h2.2
        exact same_step hk.2.2 hlen hlt he
    · have hlt : ¬ k < a.length := by simpa using h
      have hk' : k = a.length := by omega
      have h2 := hk.2.2
      rw [hk', List.take_length, hlen, List.take_length] at h2
      simp [h2]
theorem ok26 : Ok Tryz.prog 26 cSameLine := ok_of_wp mixed g27 (by kernel_rfl) (by kernel_rfl) (fun xx => ann0 (annSame 132 sPt xx.1 xx.2.1 fun k => xx.1.take k = xx.2.1.take k)) fun xx => wp26 xx.1 xx.2.1
abbrev G28 : Gam := (26, cSameLine) :: G27
theorem g28 : GamOk Tryz.prog G28 := .cons ok26 g27
def cSame38 : Con := { args := [aL 25, aL 25], ress := [Bo], owns := [], pre := fun (a, b, _) => [a.length ≤ 1000000], spec := fun (a, b, _) => (decide (a = b), ()) }
theorem vc38 : ∀ (a b : List (Int × Int)), wpF Tryz.prog G28 (ann0 (annSame (25 : TypeId) sPt a b fun (k : Nat) => List.take k a = List.take k b)) Tryz.f38 cSame38 (a, b, ()) = (List.length a ≤ (1000000 : Nat) → (((↑(List.length a) : Int) != (↑(List.length b) : Int)) = true → false = decide (a = b)) ∧ (((↑(List.length a) : Int) != (↑(List.length b) : Int)) = false → ∃ (x : Nat), ((0 : Int) = (↑x : Int) ∧ a = a ∧ b = b) ∧ (x ≤ List.length a ∧ List.length a = List.length b ∧ List.take x a = List.take x b) ∧ ∀ (x : Nat), x ≤ List.length a ∧ List.length a = List.length b ∧ List.take x a = List.take x b → (decide ((↑x : Int) < (↑(List.length a) : Int)) = true → (((0 : Int) ≤ (↑x : Int) ∧ (↑x : Int) < (↑(List.length a) : Int)) ∧ ((0 : Int) ≤ (↑x : Int) ∧ (↑x : Int) < (↑(List.length a) : Int)) ∧ ((0 : Int) ≤ (↑x : Int) ∧ (↑x : Int) < (↑(List.length b) : Int)) ∧ (0 : Int) ≤ (↑x : Int) ∧ (↑x : Int) < (↑(List.length b) : Int)) ∧ ((!((List.getD a x ((0 : Int), (0 : Int))).fst == (List.getD b x ((0 : Int), (0 : Int))).fst && ((List.getD a x ((0 : Int), (0 : Int))).snd == (List.getD b x ((0 : Int), (0 : Int))).snd && true))) = true → false = decide (a = b)) ∧ ((!((List.getD a x ((0 : Int), (0 : Int))).fst == (List.getD b x ((0 : Int), (0 : Int))).fst && ((List.getD a x ((0 : Int), (0 : Int))).snd == (List.getD b x ((0 : Int), (0 : Int))).snd && true))) = false → ((-9223372036854775808 : Int) ≤ (↑x : Int) + (1 : Int) ∧ (↑x : Int) + (1 : Int) ≤ (9223372036854775807 : Int)) ∧ ∃ (y : Nat), ((↑x : Int) + (1 : Int) = (↑y : Int) ∧ a = a ∧ b = b) ∧ (y ≤ List.length a ∧ List.length a = List.length b ∧ List.take y a = List.take y b) ∧ List.length a - y < List.length a - x)) ∧ (decide ((↑x : Int) < (↑(List.length a) : Int)) = false → true = decide (a = b)))) := by
  intros
  kernel_rfl
theorem wp38 (a b : List (Int × Int)) : wpF Tryz.prog G28 (ann0 (annSame 25 sPt a b fun k => a.take k = b.take k)) Tryz.f38 cSame38 (a, b, ()) := by
  refine (vc38 a b).mpr ?_
  intro hb
  refine ⟨fun h => ?_, fun h => ?_⟩
  · have hne : ¬ a.length = b.length := by intro e; rw [e] at h; simp at h
    have : ¬ a = b := by rintro rfl; exact hne rfl
    simp [this]
  · have hlen : a.length = b.length := by
      have : (a.length : Int) = b.length := by simpa using h
      omega
    refine ⟨(0 : Nat), ⟨rfl, rfl, rfl⟩, ⟨Nat.zero_le _, hlen, rfl⟩, fun (k : Nat) hk => ⟨fun h => ?_, fun h => ?_⟩⟩
    · have hlt : k < a.length := by simpa using h
      refine ⟨by omega, fun h1 => ?_, fun h1 => ⟨by omega, (k + 1 : Nat), ⟨by simp, rfl, rfl⟩, ⟨by omega, hlen, ?_⟩, by omega⟩⟩
      · have : ¬ a = b := by rintro rfl; simp at h1
        simp [this]
      · have he : a.getD k (0, 0) = b.getD k (0, 0) := by
          have h2 : (a.getD k (0, 0)).1 = (b.getD k (0, 0)).1 ∧ (a.getD k (0, 0)).2 = (b.getD k (0, 0)).2 := by simpa using h1
          exact Prod.ext h2.1 h2.2
        exact same_step hk.2.2 hlen hlt he
    · have hlt : ¬ k < a.length := by simpa using h
      have hk' : k = a.length := by omega
      have h2 := hk.2.2
      rw [hk', List.take_length, hlen, List.take_length] at h2
      simp [h2]
theorem ok38 : Ok Tryz.prog 38 cSame38 := ok_of_wp mixed g28 (by kernel_rfl) (by kernel_rfl) (fun xx => ann0 (annSame 25 sPt xx.1 xx.2.1 fun k => xx.1.take k = xx.2.1.take k)) fun xx => wp38 xx.1 xx.2.1
abbrev G29 : Gam := (38, cSame38) :: G28
theorem g29 : GamOk Tryz.prog G29 := .cons ok38 g28
def cSame58 : Con := { args := [aL 142, aL 142], ress := [Bo], owns := [], pre := fun (a, b, _) => [a.length ≤ 1000000], spec := fun (a, b, _) => (decide (a = b), ()) }
theorem vc58 : ∀ (a b : List (Int × Int)), wpF Tryz.prog G29 (ann0 (annSame (142 : TypeId) sPt a b fun (k : Nat) => List.take k a = List.take k b)) Tryz.f58 cSame58 (a, b, ()) = (List.length a ≤ (1000000 : Nat) → (((↑(List.length a) : Int) != (↑(List.length b) : Int)) = true → false = decide (a = b)) ∧ (((↑(List.length a) : Int) != (↑(List.length b) : Int)) = false → ∃ (x : Nat), ((0 : Int) = (↑x : Int) ∧ a = a ∧ b = b) ∧ (x ≤ List.length a ∧ List.length a = List.length b ∧ List.take x a = List.take x b) ∧ ∀ (x : Nat), x ≤ List.length a ∧ List.length a = List.length b ∧ List.take x a = List.take x b → (decide ((↑x : Int) < (↑(List.length a) : Int)) = true → (((0 : Int) ≤ (↑x : Int) ∧ (↑x : Int) < (↑(List.length a) : Int)) ∧ ((0 : Int) ≤ (↑x : Int) ∧ (↑x : Int) < (↑(List.length a) : Int)) ∧ ((0 : Int) ≤ (↑x : Int) ∧ (↑x : Int) < (↑(List.length b) : Int)) ∧ (0 : Int) ≤ (↑x : Int) ∧ (↑x : Int) < (↑(List.length b) : Int)) ∧ ((!((List.getD a x ((0 : Int), (0 : Int))).fst == (List.getD b x ((0 : Int), (0 : Int))).fst && ((List.getD a x ((0 : Int), (0 : Int))).snd == (List.getD b x ((0 : Int), (0 : Int))).snd && true))) = true → false = decide (a = b)) ∧ ((!((List.getD a x ((0 : Int), (0 : Int))).fst == (List.getD b x ((0 : Int), (0 : Int))).fst && ((List.getD a x ((0 : Int), (0 : Int))).snd == (List.getD b x ((0 : Int), (0 : Int))).snd && true))) = false → ((-9223372036854775808 : Int) ≤ (↑x : Int) + (1 : Int) ∧ (↑x : Int) + (1 : Int) ≤ (9223372036854775807 : Int)) ∧ ∃ (y : Nat), ((↑x : Int) + (1 : Int) = (↑y : Int) ∧ a = a ∧ b = b) ∧ (y ≤ List.length a ∧ List.length a = List.length b ∧ List.take y a = List.take y b) ∧ List.length a - y < List.length a - x)) ∧ (decide ((↑x : Int) < (↑(List.length a) : Int)) = false → true = decide (a = b)))) := by
  intros
  kernel_rfl
theorem wp58 (a b : List (Int × Int)) : wpF Tryz.prog G29 (ann0 (annSame 142 sPt a b fun k => a.take k = b.take k)) Tryz.f58 cSame58 (a, b, ()) := by
  refine (vc58 a b).mpr ?_
  intro hb
  refine ⟨fun h => ?_, fun h => ?_⟩
  · have hne : ¬ a.length = b.length := by intro e; rw [e] at h; simp at h
    have : ¬ a = b := by rintro rfl; exact hne rfl
    simp [this]
  · have hlen : a.length = b.length := by
      have : (a.length : Int) = b.length := by simpa using h
      omega
    refine ⟨(0 : Nat), ⟨rfl, rfl, rfl⟩, ⟨Nat.zero_le _, hlen, rfl⟩, fun (k : Nat) hk => ⟨fun h => ?_, fun h => ?_⟩⟩
    · have hlt : k < a.length := by simpa using h
      refine ⟨by omega, fun h1 => ?_, fun h1 => ⟨by omega, (k + 1 : Nat), ⟨by simp, rfl, rfl⟩, ⟨by omega, hlen, ?_⟩, by omega⟩⟩
      · have : ¬ a = b := by rintro rfl; simp at h1
        simp [this]
      · have he : a.getD k (0, 0) = b.getD k (0, 0) := by
          have h2 : (a.getD k (0, 0)).1 = (b.getD k (0, 0)).1 ∧ (a.getD k (0, 0)).2 = (b.getD k (0, 0)).2 := by simpa using h1
          exact Prod.ext h2.1 h2.2
        exact same_step hk.2.2 hlen hlt he
    · have hlt : ¬ k < a.length := by simpa using h
      have hk' : k = a.length := by omega
      have h2 := hk.2.2
      rw [hk', List.take_length, hlen, List.take_length] at h2
      simp [h2]
theorem ok58 : Ok Tryz.prog 58 cSame58 := ok_of_wp mixed g29 (by kernel_rfl) (by kernel_rfl) (fun xx => ann0 (annSame 142 sPt xx.1 xx.2.1 fun k => xx.1.take k = xx.2.1.take k)) fun xx => wp58 xx.1 xx.2.1
abbrev G30 : Gam := (58, cSame58) :: G29
theorem g30 : GamOk Tryz.prog G30 := .cons ok58 g29
def cSame74 : Con := { args := [aL 116, aL 116], ress := [Bo], owns := [], pre := fun (a, b, _) => [a.length ≤ 1000000], spec := fun (a, b, _) => (decide (a = b), ()) }
theorem vc74 : ∀ (a b : List (Int × Int)), wpF Tryz.prog G30 (ann0 (annSame (116 : TypeId) sPt a b fun (k : Nat) => List.take k a = List.take k b)) Tryz.f74 cSame74 (a, b, ()) = (List.length a ≤ (1000000 : Nat) → (((↑(List.length a) : Int) != (↑(List.length b) : Int)) = true → false = decide (a = b)) ∧ (((↑(List.length a) : Int) != (↑(List.length b) : Int)) = false → ∃ (x : Nat), ((0 : Int) = (↑x : Int) ∧ a = a ∧ b = b) ∧ (x ≤ List.length a ∧ List.length a = List.length b ∧ List.take x a = List.take x b) ∧ ∀ (x : Nat), x ≤ List.length a ∧ List.length a = List.length b ∧ List.take x a = List.take x b → (decide ((↑x : Int) < (↑(List.length a) : Int)) = true → (((0 : Int) ≤ (↑x : Int) ∧ (↑x : Int) < (↑(List.length a) : Int)) ∧ ((0 : Int) ≤ (↑x : Int) ∧ (↑x : Int) < (↑(List.length a) : Int)) ∧ ((0 : Int) ≤ (↑x : Int) ∧ (↑x : Int) < (↑(List.length b) : Int)) ∧ (0 : Int) ≤ (↑x : Int) ∧ (↑x : Int) < (↑(List.length b) : Int)) ∧ ((!((List.getD a x ((0 : Int), (0 : Int))).fst == (List.getD b x ((0 : Int), (0 : Int))).fst && ((List.getD a x ((0 : Int), (0 : Int))).snd == (List.getD b x ((0 : Int), (0 : Int))).snd && true))) = true → false = decide (a = b)) ∧ ((!((List.getD a x ((0 : Int), (0 : Int))).fst == (List.getD b x ((0 : Int), (0 : Int))).fst && ((List.getD a x ((0 : Int), (0 : Int))).snd == (List.getD b x ((0 : Int), (0 : Int))).snd && true))) = false → ((-9223372036854775808 : Int) ≤ (↑x : Int) + (1 : Int) ∧ (↑x : Int) + (1 : Int) ≤ (9223372036854775807 : Int)) ∧ ∃ (y : Nat), ((↑x : Int) + (1 : Int) = (↑y : Int) ∧ a = a ∧ b = b) ∧ (y ≤ List.length a ∧ List.length a = List.length b ∧ List.take y a = List.take y b) ∧ List.length a - y < List.length a - x)) ∧ (decide ((↑x : Int) < (↑(List.length a) : Int)) = false → true = decide (a = b)))) := by
  intros
  kernel_rfl
theorem wp74 (a b : List (Int × Int)) : wpF Tryz.prog G30 (ann0 (annSame 116 sPt a b fun k => a.take k = b.take k)) Tryz.f74 cSame74 (a, b, ()) := by
  refine (vc74 a b).mpr ?_
  intro hb
  refine ⟨fun h => ?_, fun h => ?_⟩
  · have hne : ¬ a.length = b.length := by intro e; rw [e] at h; simp at h
    have : ¬ a = b := by rintro rfl; exact hne rfl
    simp [this]
  · have hlen : a.length = b.length := by
      have : (a.length : Int) = b.length := by simpa using h
      omega
    refine ⟨(0 : Nat), ⟨rfl, rfl, rfl⟩, ⟨Nat.zero_le _, hlen, rfl⟩, fun (k : Nat) hk => ⟨fun h => ?_, fun h => ?_⟩⟩
    · have hlt : k < a.length := by simpa using h
      refine ⟨by omega, fun h1 => ?_, fun h1 => ⟨by omega, (k + 1 : Nat), ⟨by simp, rfl, rfl⟩, ⟨by omega, hlen, ?_⟩, by omega⟩⟩
      · have : ¬ a = b := by rintro rfl; simp at h1
        simp [this]
      · have he : a.getD k (0, 0) = b.getD k (0, 0) := by
          have h2 : (a.getD k (0, 0)).1 = (b.getD k (0, 0)).1 ∧ (a.getD k (0, 0)).2 = (b.getD k (0, 0)).2 := by simpa using h1
          exact Prod.ext h2.1 h2.2
        exact same_step hk.2.2 hlen hlt he
    · have hlt : ¬ k < a.length := by simpa using h
      have hk' : k = a.length := by omega
      have h2 := hk.2.2
      rw [hk', List.take_length, hlen, List.take_length] at h2
      simp [h2]
theorem ok74 : Ok Tryz.prog 74 cSame74 := ok_of_wp mixed g30 (by kernel_rfl) (by kernel_rfl) (fun xx => ann0 (annSame 116 sPt xx.1 xx.2.1 fun k => xx.1.take k = xx.2.1.take k)) fun xx => wp74 xx.1 xx.2.1
abbrev G31 : Gam := (74, cSame74) :: G30
theorem g31 : GamOk Tryz.prog G31 := .cons ok74 g30
def cSameInts : Con := { args := [.val false (.list 3 sI), .val false (.list 3 sI)], ress := [Bo], owns := [], pre := fun (a, b, _) => [a.length ≤ 1000000], spec := fun (a, b, _) => (decide (a = b), ()) }
theorem vc69 : ∀ (a b : List Int), wpF Tryz.prog G31 (ann0 (annSame (3 : TypeId) sI a b fun (k : Nat) => List.take k a = List.take k b)) Tryz.f69 cSameInts (a, b, ()) = (List.length a ≤ (1000000 : Nat) → (((↑(List.length a) : Int) != (↑(List.length b) : Int)) = true → false = decide (a = b)) ∧ (((↑(List.length a) : Int) != (↑(List.length b) : Int)) = false → ∃ (x : Nat), ((0 : Int) = (↑x : Int) ∧ a = a ∧ b = b) ∧ (x ≤ List.length a ∧ List.length a = List.length b ∧ List.take x a = List.take x b) ∧ ∀ (x : Nat), x ≤ List.length a ∧ List.length a = List.length b ∧ List.take x a = List.take x b → (decide ((↑x : Int) < (↑(List.length a) : Int)) = true → (((0 : Int) ≤ (↑x : Int) ∧ (↑x : Int) < (↑(List.length a) : Int)) ∧ ((0 : Int) ≤ (↑x : Int) ∧ (↑x : Int) < (↑(List.length a) : Int)) ∧ ((0 : Int) ≤ (↑x : Int) ∧ (↑x : Int) < (↑(List.length b) : Int)) ∧ (0 : Int) ≤ (↑x : Int) ∧ (↑x : Int) < (↑(List.length b) : Int)) ∧ ((List.getD a x (0 : Int) != List.getD b x (0 : Int)) = true → false = decide (a = b)) ∧ ((List.getD a x (0 : Int) != List.getD b x (0 : Int)) = false → ((-9223372036854775808 : Int) ≤ (↑x : Int) + (1 : Int) ∧ (↑x : Int) + (1 : Int) ≤ (9223372036854775807 : Int)) ∧ ∃ (y : Nat), ((↑x : Int) + (1 : Int) = (↑y : Int) ∧ a = a ∧ b = b) ∧ (y ≤ List.length a ∧ List.length a = List.length b ∧ List.take y a = List.take y b) ∧ List.length a - y < List.length a - x)) ∧ (decide ((↑x : Int) < (↑(List.length a) : Int)) = false → true = decide (a = b)))) := by
  intros
  kernel_rfl
theorem wp69 (a b : List Int) : wpF Tryz.prog G31 (ann0 (annSame 3 sI a b fun k => a.take k = b.take k)) Tryz.f69 cSameInts (a, b, ()) := by
  refine (vc69 a b).mpr ?_
  intro hb
  refine ⟨fun h => ?_, fun h => ?_⟩
  · have hne : ¬ a.length = b.length := by intro e; rw [e] at h; simp at h
    have : ¬ a = b := by rintro rfl; exact hne rfl
    simp [this]
  · have hlen : a.length = b.length := by
      have : (a.length : Int) = b.length := by simpa using h
      omega
    refine ⟨(0 : Nat), ⟨rfl, rfl, rfl⟩, ⟨Nat.zero_le _, hlen, rfl⟩, fun (k : Nat) hk => ⟨fun h => ?_, fun h => ?_⟩⟩
    · have hlt : k < a.length := by simpa using h
      refine ⟨by omega, fun h1 => ?_, fun h1 => ⟨by omega, (k + 1 : Nat), ⟨by simp, rfl, rfl⟩, ⟨by omega, hlen, ?_⟩, by omega⟩⟩
      · have : ¬ a = b := by rintro rfl; simp at h1
        simp [this]
      · have he : a.getD k 0 = b.getD k 0 := by
          simpa using h1
        exact same_step hk.2.2 hlen hlt he
    · have hlt : ¬ k < a.length := by simpa using h
      have hk' : k = a.length := by omega
      have h2 := hk.2.2
      rw [hk', List.take_length, hlen, List.take_length] at h2
      simp [h2]
theorem ok69 : Ok Tryz.prog 69 cSameInts := ok_of_wp mixed g31 (by kernel_rfl) (by kernel_rfl) (fun xx => ann0 (annSame 3 sI xx.1 xx.2.1 fun k => xx.1.take k = xx.2.1.take k)) fun xx => wp69 xx.1 xx.2.1
abbrev G32 : Gam := (69, cSameInts) :: G31
theorem g32 : GamOk Tryz.prog G32 := .cons ok69 g31
end Go.Proofs.YtacaadhlobbemaaGreatDoor
namespace Go.Proofs.YtacaadhlobbemaaGreatDoor
open Go.Sx
abbrev s3 : Sch := .prod sI (.prod sI sI)
abbrev a3 : AK := .val true s3
def lossesS (x : Int × Int × Int) : Int := firstS [withinS x.1 0 1000, withinS x.2.1 0 1000, withinS x.2.2 0 1000]
def cCheckLosses : Con := { args := [a3], ress := [I], owns := [], pre := fun _ => [], spec := fun (x, _) => (lossesS x, ()) }
theorem vc50 : ∀ (x : Int × Int × Int), wpF Tryz.prog G32 (na ()) Tryz.f50 cCheckLosses (x, ()) = ((3 : Nat) ≤ (1000000 : Nat) ∧ firstS [withinS x.fst (0 : Int) (1000 : Int), withinS x.snd.fst (0 : Int) (1000 : Int), withinS x.snd.snd (0 : Int) (1000 : Int)] = lossesS x) := by
  intros
  kernel_rfl
theorem wp50 (x : Int × Int × Int) : wpF Tryz.prog G32 (na ()) Tryz.f50 cCheckLosses (x, ()) := by
  refine (vc50 x).mpr ?_
  exact ⟨by omega, rfl⟩
theorem ok50 : Ok Tryz.prog 50 cCheckLosses := ok_of_wp mixed g32 (by kernel_rfl) (by kernel_rfl) na fun xx => wp50 xx.1
abbrev G33 : Gam := (50, cCheckLosses) :: G32
theorem g33 : GamOk Tryz.prog G33 := .cons ok50 g32
theorem vc51 : ∀ (x : Int × Int × Int), wpF Tryz.prog G33 (na ()) Tryz.f51 cCheckLosses (x, ()) = ((3 : Nat) ≤ (1000000 : Nat) ∧ firstS [withinS x.fst (0 : Int) (1000 : Int), withinS x.snd.fst (0 : Int) (1000 : Int), withinS x.snd.snd (0 : Int) (1000 : Int)] = lossesS x) := by
  intros
  kernel_rfl
theorem wp51 (x : Int × Int × Int) : wpF Tryz.prog G33 (na ()) Tryz.f51 cCheckLosses (x, ()) := by
  refine (vc51 x).mpr ?_
  exact ⟨by omega, rfl⟩
theorem ok51 : Ok Tryz.prog 51 cCheckLosses := ok_of_wp mixed g33 (by kernel_rfl) (by kernel_rfl) na fun xx => wp51 xx.1
abbrev G34 : Gam := (51, cCheckLosses) :: G33
theorem g34 : GamOk Tryz.prog G34 := .cons ok51 g33
def checkLossS (x : Int × Int × Int) (p : Int) : Int := firstS [lossesS x, withinS p 0 1000]
def cCheckLoss : Con := { args := [a3, aI], ress := [I], owns := [], pre := fun _ => [], spec := fun (x, p, _) => (checkLossS x p, ()) }
theorem vc119 : ∀ (x : Int × Int × Int) (p : Int), wpF Tryz.prog G34 (na ()) Tryz.f119 cCheckLoss (x, p, ()) = ((2 : Nat) ≤ (1000000 : Nat) ∧ firstS [lossesS (x.fst, x.snd.fst, x.snd.snd), withinS p (0 : Int) (1000 : Int)] = checkLossS x p) := by
  intros
  kernel_rfl
theorem wp119 (x : Int × Int × Int) (p : Int) : wpF Tryz.prog G34 (na ()) Tryz.f119 cCheckLoss (x, p, ()) := by
  refine (vc119 x p).mpr ?_
  exact ⟨by omega, rfl⟩
theorem ok119 : Ok Tryz.prog 119 cCheckLoss := ok_of_wp mixed g34 (by kernel_rfl) (by kernel_rfl) na fun xx => wp119 xx.1 xx.2.1
abbrev G35 : Gam := (119, cCheckLoss) :: G34
theorem g35 : GamOk Tryz.prog G35 := .cons ok119 g34
theorem vc44 : ∀ (x : Int × Int × Int) (p : Int), wpF Tryz.prog G35 (na ()) Tryz.f44 cCheckLoss (x, p, ()) = ((2 : Nat) ≤ (1000000 : Nat) ∧ firstS [lossesS (x.fst, x.snd.fst, x.snd.snd), withinS p (0 : Int) (1000 : Int)] = checkLossS x p) := by
  intros
  kernel_rfl
theorem wp44 (x : Int × Int × Int) (p : Int) : wpF Tryz.prog G35 (na ()) Tryz.f44 cCheckLoss (x, p, ()) := by
  refine (vc44 x p).mpr ?_
  exact ⟨by omega, rfl⟩
theorem ok44 : Ok Tryz.prog 44 cCheckLoss := ok_of_wp mixed g35 (by kernel_rfl) (by kernel_rfl) na fun xx => wp44 xx.1 xx.2.1
abbrev G36 : Gam := (44, cCheckLoss) :: G35
theorem g36 : GamOk Tryz.prog G36 := .cons ok44 g35
def lossN (x : Int × Int × Int) (p : Int) : Int := x.1 * 1024 * 1024 + x.2.1 * p * 1024 + x.2.2 * p * p
def lossS (x : Int × Int × Int) (p : Int) : Int × Int := if p = 0 then (0, 0) else ((lossN x p).tdiv 1048576, (lossN x p + 1048576 - 1).tdiv 1048576)
def lossOk (x : Int × Int × Int) (p : Int) : Prop := (0 ≤ x.1 ∧ x.1 ≤ 1000) ∧ (0 ≤ x.2.1 ∧ x.2.1 ≤ 1000) ∧ (0 ≤ x.2.2 ∧ x.2.2 ≤ 1000) ∧ 0 ≤ p ∧ p ≤ 1000
def cLoss : Con := { args := [a3, aI], ress := [Pr], owns := [], pre := fun (x, p, _) => [lossOk x p], spec := fun (x, p, _) => (lossS x p, ()) }
theorem lossN_bd {x : Int × Int × Int} {p : Int} (h : lossOk x p) : (0 ≤ x.2.1 * p ∧ x.2.1 * p ≤ 1000000) ∧ (0 ≤ x.2.2 * p ∧ x.2.2 * p ≤ 1000000) ∧ (0 ≤ x.2.2 * p * p ∧ x.2.2 * p * p ≤ 1000000000) ∧ 0 ≤ lossN x p ∧ lossN x p ≤ 5000000000 := by
  obtain ⟨x1, x2, x3, x4⟩ := h
  have p1 := Int.mul_nonneg x2.1 x4.1
  have p2 := Int.mul_nonneg x3.1 x4.1
  have p3 := Int.mul_nonneg p2 x4.1
  have q1 := (mul_bd (a := x.2.1) (b := p) (A := 1000) (B := 1000) ⟨by omega, x2.2⟩ ⟨by omega, x4.2⟩).2
  have q2 := (mul_bd (a := x.2.2) (b := p) (A := 1000) (B := 1000) ⟨by omega, x3.2⟩ ⟨by omega, x4.2⟩).2
  have q3 := (mul_bd (a := x.2.2 * p) (b := p) (A := 1000000) (B := 1000) ⟨by omega, by omega⟩ ⟨by omega, x4.2⟩).2
  unfold lossN
  generalize x.2.1 * p = u at *
  generalize x.2.2 * p = v at *
  generalize v * p = t at *
  omega
theorem tdiv_nn {a g B : Int} (h : 0 ≤ a ∧ a ≤ B) (hg : 0 ≤ g) : 0 ≤ a.tdiv g ∧ a.tdiv g ≤ B := by
  have := tdiv_bd (a := a) (g := g) (B := B) ⟨by omega, h.2⟩
  exact ⟨Int.tdiv_nonneg h.1 hg, this.2⟩
theorem lossS_bd {x : Int × Int × Int} {p : Int} (h : lossOk x p) : (0 ≤ (lossS x p).1 ∧ (lossS x p).1 ≤ 10000000000) ∧ 0 ≤ (lossS x p).2 ∧ (lossS x p).2 ≤ 10000000000 := by
  have hb := (lossN_bd h).2.2.2
  unfold lossS
  split
  · exact ⟨⟨Int.le_refl _, by decide⟩, Int.le_refl _, by decide⟩
  · exact ⟨tdiv_nn ⟨hb.1, by omega⟩ (by decide), tdiv_nn ⟨by omega, by omega⟩ (by decide)⟩
theorem vc120 : ∀ (x : Int × Int × Int) (p : Int), wpF Tryz.prog G36 (na ()) Tryz.f120 cLoss (x, p, ()) = (lossOk x p → ((p == (0 : Int)) = true → ((0 : Int), (0 : Int)) = lossS x p) ∧ ((p == (0 : Int)) = false → (((-9223372036854775808 : Int) ≤ x.fst * (1024 : Int) ∧ x.fst * (1024 : Int) ≤ (9223372036854775807 : Int)) ∧ ((-9223372036854775808 : Int) ≤ x.fst * (1024 : Int) * (1024 : Int) ∧ x.fst * (1024 : Int) * (1024 : Int) ≤ (9223372036854775807 : Int)) ∧ ((-9223372036854775808 : Int) ≤ x.snd.fst * p ∧ x.snd.fst * p ≤ (9223372036854775807 : Int)) ∧ ((-9223372036854775808 : Int) ≤ x.snd.fst * p * (1024 : Int) ∧ x.snd.fst * p * (1024 : Int) ≤ (9223372036854775807 : Int)) ∧ ((-9223372036854775808 : Int) ≤ x.fst * (1024 : Int) * (1024 : Int) + x.snd.fst * p * (1024 : Int) ∧ x.fst * (1024 : Int) * (1024 : Int) + x.snd.fst * p * (1024 : Int) ≤ (9223372036854775807 : Int)) ∧ ((-9223372036854775808 : Int) ≤ x.snd.snd * p ∧ x.snd.snd * p ≤ (9223372036854775807 : Int)) ∧ ((-9223372036854775808 : Int) ≤ x.snd.snd * p * p ∧ x.snd.snd * p * p ≤ (9223372036854775807 : Int)) ∧ (-9223372036854775808 : Int) ≤ x.fst * (1024 : Int) * (1024 : Int) + x.snd.fst * p * (1024 : Int) + x.snd.snd * p * p ∧ x.fst * (1024 : Int) * (1024 : Int) + x.snd.fst * p * (1024 : Int) + x.snd.snd * p * p ≤ (9223372036854775807 : Int)) ∧ (((1048576 : Int) = (0 : Int) → False) ∧ ((-9223372036854775808 : Int) ≤ Int.tdiv (x.fst * (1024 : Int) * (1024 : Int) + x.snd.fst * p * (1024 : Int) + x.snd.snd * p * p) (1048576 : Int) ∧ Int.tdiv (x.fst * (1024 : Int) * (1024 : Int) + x.snd.fst * p * (1024 : Int) + x.snd.snd * p * p) (1048576 : Int) ≤ (9223372036854775807 : Int)) ∧ ((-9223372036854775808 : Int) ≤ x.fst * (1024 : Int) * (1024 : Int) + x.snd.fst * p * (1024 : Int) + x.snd.snd * p * p + (1048576 : Int) ∧ x.fst * (1024 : Int) * (1024 : Int) + x.snd.fst * p * (1024 : Int) + x.snd.snd * p * p + (1048576 : Int) ≤ (9223372036854775807 : Int)) ∧ ((-9223372036854775808 : Int) ≤ x.fst * (1024 : Int) * (1024 : Int) + x.snd.fst * p * (1024 : Int) + x.snd.snd * p * p + (1048576 : Int) - (1 : Int) ∧ x.fst * (1024 : Int) * (1024 : Int) + x.snd.fst * p * (1024 : Int) + x.snd.snd * p * p + (1048576 : Int) - (1 : Int) ≤ (9223372036854775807 : Int)) ∧ ((1048576 : Int) = (0 : Int) → False) ∧ (-9223372036854775808 : Int) ≤ Int.tdiv (x.fst * (1024 : Int) * (1024 : Int) + x.snd.fst * p * (1024 : Int) + x.snd.snd * p * p + (1048576 : Int) - (1 : Int)) (1048576 : Int) ∧ Int.tdiv (x.fst * (1024 : Int) * (1024 : Int) + x.snd.fst * p * (1024 : Int) + x.snd.snd * p * p + (1048576 : Int) - (1 : Int)) (1048576 : Int) ≤ (9223372036854775807 : Int)) ∧ (Int.tdiv (x.fst * (1024 : Int) * (1024 : Int) + x.snd.fst * p * (1024 : Int) + x.snd.snd * p * p) (1048576 : Int), Int.tdiv (x.fst * (1024 : Int) * (1024 : Int) + x.snd.fst * p * (1024 : Int) + x.snd.snd * p * p + (1048576 : Int) - (1 : Int)) (1048576 : Int)) = lossS x p)) := by
  intros
  kernel_rfl
theorem wp120 (x : Int × Int × Int) (p : Int) : wpF Tryz.prog G36 (na ()) Tryz.f120 cLoss (x, p, ()) := by
  refine (vc120 x p).mpr ?_
  intro hx
  have hb := lossN_bd hx
  obtain ⟨b1, b2, b3, b4, b5⟩ := hb
  obtain ⟨x1, x2, x3, x4⟩ := hx
  refine ⟨fun h => ?_, fun h => ?_⟩
  · have h0 : p = 0 := by simpa using h
    simp [lossS, h0]
  · have h0 : ¬ p = 0 := by simpa using h
    have d1 := tdiv_bd (a := lossN x p) (g := 1048576) (B := 10000000000) ⟨by omega, by omega⟩
    have d2 := tdiv_bd (a := lossN x p + 1048576 - 1) (g := 1048576) (B := 10000000000) ⟨by omega, by omega⟩
    refine ⟨?_, ?_, by rw [lossS, if_neg h0]; rfl⟩
    · unfold lossN at *
      generalize x.2.1 * p = u at *
      generalize x.2.2 * p = v at *
      generalize v * p = t at *
      refine ⟨by omega, by omega, by omega, by omega, by omega, by omega, by omega, by omega⟩
    · unfold lossN at *
      refine ⟨by omega, by omega, ?_, ?_, by omega, by omega⟩ <;>
      · generalize x.2.1 * p = u at *
        generalize x.2.2 * p = v at *
        generalize v * p = t at *
        omega
theorem ok120 : Ok Tryz.prog 120 cLoss := ok_of_wp mixed g36 (by kernel_rfl) (by kernel_rfl) na fun xx => wp120 xx.1 xx.2.1
abbrev G37 : Gam := (120, cLoss) :: G36
theorem g37 : GamOk Tryz.prog G37 := .cons ok120 g36
def cFloor : Con := { args := [aI, aI], ress := [I], owns := [], pre := fun (n, d, _) => [-1000000000000000 ≤ n ∧ n ≤ 1000000000000000, 0 < d ∧ d ≤ 1000000000000000], spec := fun (n, d, _) => (n / d, ()) }
theorem floor_key {n d : Int} (h : 0 < d) : (n < n.tdiv d * d → n.tdiv d - 1 = n / d) ∧ (¬ n < n.tdiv d * d → n.tdiv d = n / d) := by
  have h1 := Int.ediv_mul_le n (b := d) (by omega)
  have h2 := Int.lt_ediv_add_one_mul_self n h
  have h3 := Int.tdiv_eq_ediv (a := n) (b := d)
  rw [Int.sign_eq_one_of_pos h] at h3
  split at h3
  · rw [Int.add_zero] at h3
    rw [h3]
    exact ⟨fun h => by omega, fun _ => rfl⟩
  · rw [h3]
    exact ⟨fun _ => by omega, fun h => by omega⟩
theorem vc124 : ∀ (n d : Int), wpF Tryz.prog G37 (na ()) Tryz.f124 cFloor (n, d, ()) = ((-1000000000000000 : Int) ≤ n ∧ n ≤ (1000000000000000 : Int) → (0 : Int) < d ∧ d ≤ (1000000000000000 : Int) → ((d = (0 : Int) → False) ∧ (-9223372036854775808 : Int) ≤ Int.tdiv n d ∧ Int.tdiv n d ≤ (9223372036854775807 : Int)) ∧ ((-9223372036854775808 : Int) ≤ Int.tdiv n d * d ∧ Int.tdiv n d * d ≤ (9223372036854775807 : Int)) ∧ (decide (n < Int.tdiv n d * d) = true → ((-9223372036854775808 : Int) ≤ Int.tdiv n d - (1 : Int) ∧ Int.tdiv n d - (1 : Int) ≤ (9223372036854775807 : Int)) ∧ Int.tdiv n d - (1 : Int) = n / d) ∧ (decide (n < Int.tdiv n d * d) = false → Int.tdiv n d = n / d)) := by
  intros
  kernel_rfl
theorem wp124 (n d : Int) : wpF Tryz.prog G37 (na ()) Tryz.f124 cFloor (n, d, ()) := by
  refine (vc124 n d).mpr ?_
  intro h1 h2
  have b := tdiv_bd (a := n) (g := d) (B := 1000000000000000) ⟨by omega, h1.2⟩
  have b2 : (n.tdiv d * d).natAbs ≤ n.natAbs := by rw [Int.natAbs_mul, Int.natAbs_tdiv]; exact Nat.div_mul_le_self _ _
  have hk := floor_key (n := n) h2.1
  refine ⟨by omega, by omega, fun h => ⟨by omega, hk.1 (by simpa using h)⟩, fun h => hk.2 (by simpa using h)⟩
theorem ok124 : Ok Tryz.prog 124 cFloor := ok_of_wp mixed g37 (by kernel_rfl) (by kernel_rfl) na fun xx => wp124 xx.1 xx.2.1
abbrev G38 : Gam := (124, cFloor) :: G37
theorem g38 : GamOk Tryz.prog G38 := .cons ok124 g37
theorem vc45 : ∀ (x : Int × Int × Int) (p : Int), wpF Tryz.prog G38 (na ()) Tryz.f45 cLoss (x, p, ()) = (lossOk x p → ((p == (0 : Int)) = true → ((0 : Int), (0 : Int)) = lossS x p) ∧ ((p == (0 : Int)) = false → (((-9223372036854775808 : Int) ≤ x.fst * (1024 : Int) ∧ x.fst * (1024 : Int) ≤ (9223372036854775807 : Int)) ∧ ((-9223372036854775808 : Int) ≤ x.fst * (1024 : Int) * (1024 : Int) ∧ x.fst * (1024 : Int) * (1024 : Int) ≤ (9223372036854775807 : Int)) ∧ ((-9223372036854775808 : Int) ≤ x.snd.fst * p ∧ x.snd.fst * p ≤ (9223372036854775807 : Int)) ∧ ((-9223372036854775808 : Int) ≤ x.snd.fst * p * (1024 : Int) ∧ x.snd.fst * p * (1024 : Int) ≤ (9223372036854775807 : Int)) ∧ ((-9223372036854775808 : Int) ≤ x.fst * (1024 : Int) * (1024 : Int) + x.snd.fst * p * (1024 : Int) ∧ x.fst * (1024 : Int) * (1024 : Int) + x.snd.fst * p * (1024 : Int) ≤ (9223372036854775807 : Int)) ∧ ((-9223372036854775808 : Int) ≤ x.snd.snd * p ∧ x.snd.snd * p ≤ (9223372036854775807 : Int)) ∧ ((-9223372036854775808 : Int) ≤ x.snd.snd * p * p ∧ x.snd.snd * p * p ≤ (9223372036854775807 : Int)) ∧ (-9223372036854775808 : Int) ≤ x.fst * (1024 : Int) * (1024 : Int) + x.snd.fst * p * (1024 : Int) + x.snd.snd * p * p ∧ x.fst * (1024 : Int) * (1024 : Int) + x.snd.fst * p * (1024 : Int) + x.snd.snd * p * p ≤ (9223372036854775807 : Int)) ∧ (((-1000000000000000 : Int) ≤ x.fst * (1024 : Int) * (1024 : Int) + x.snd.fst * p * (1024 : Int) + x.snd.snd * p * p ∧ x.fst * (1024 : Int) * (1024 : Int) + x.snd.fst * p * (1024 : Int) + x.snd.snd * p * p ≤ (1000000000000000 : Int)) ∧ ((0 : Int) < (1048576 : Int) ∧ (1048576 : Int) ≤ (1000000000000000 : Int)) ∧ ((-9223372036854775808 : Int) ≤ (0 : Int) - (x.fst * (1024 : Int) * (1024 : Int) + x.snd.fst * p * (1024 : Int) + x.snd.snd * p * p) ∧ (0 : Int) - (x.fst * (1024 : Int) * (1024 : Int) + x.snd.fst * p * (1024 : Int) + x.snd.snd * p * p) ≤ (9223372036854775807 : Int)) ∧ ((-1000000000000000 : Int) ≤ (0 : Int) - (x.fst * (1024 : Int) * (1024 : Int) + x.snd.fst * p * (1024 : Int) + x.snd.snd * p * p) ∧ (0 : Int) - (x.fst * (1024 : Int) * (1024 : Int) + x.snd.fst * p * (1024 : Int) + x.snd.snd * p * p) ≤ (1000000000000000 : Int)) ∧ ((0 : Int) < (1048576 : Int) ∧ (1048576 : Int) ≤ (1000000000000000 : Int)) ∧ (-9223372036854775808 : Int) ≤ (0 : Int) - ((0 : Int) - (x.fst * (1024 : Int) * (1024 : Int) + x.snd.fst * p * (1024 : Int) + x.snd.snd * p * p)) / (1048576 : Int) ∧ (0 : Int) - ((0 : Int) - (x.fst * (1024 : Int) * (1024 : Int) + x.snd.fst * p * (1024 : Int) + x.snd.snd * p * p)) / (1048576 : Int) ≤ (9223372036854775807 : Int)) ∧ ((x.fst * (1024 : Int) * (1024 : Int) + x.snd.fst * p * (1024 : Int) + x.snd.snd * p * p) / (1048576 : Int), (0 : Int) - ((0 : Int) - (x.fst * (1024 : Int) * (1024 : Int) + x.snd.fst * p * (1024 : Int) + x.snd.snd * p * p)) / (1048576 : Int)) = lossS x p)) := by
  intros
  kernel_rfl
theorem wp45 (x : Int × Int × Int) (p : Int) : wpF Tryz.prog G38 (na ()) Tryz.f45 cLoss (x, p, ()) := by
  refine (vc45 x p).mpr ?_
  intro hx
  have hb := lossN_bd hx
  obtain ⟨b1, b2, b3, b4, b5⟩ := hb
  obtain ⟨x1, x2, x3, x4⟩ := hx
  refine ⟨fun h => ?_, fun h => ?_⟩
  · have h0 : p = 0 := by simpa using h
    simp [lossS, h0]
  · have h0 : ¬ p = 0 := by simpa using h
    have e1 : (lossN x p).tdiv 1048576 = lossN x p / 1048576 := Int.tdiv_eq_ediv_of_nonneg b4
    have e2 : (lossN x p + 1048576 - 1).tdiv 1048576 = (lossN x p + 1048576 - 1) / 1048576 := Int.tdiv_eq_ediv_of_nonneg (by omega)
    rw [lossS, if_neg h0, e1, e2]
    unfold lossN at *
    generalize x.2.1 * p = u at *
    generalize x.2.2 * p = v at *
    generalize v * p = t at *
    refine ⟨⟨by omega, by omega, by omega, by omega, by omega, by omega, by omega, by omega⟩, ⟨by omega, by omega, by omega, by omega, by omega, by omega⟩, Prod.ext rfl ?_⟩
    show 0 - (0 - (x.1 * 1024 * 1024 + u * 1024 + t)) / 1048576 = (x.1 * 1024 * 1024 + u * 1024 + t + 1048576 - 1) / 1048576
    omega
theorem ok45 : Ok Tryz.prog 45 cLoss := ok_of_wp mixed g38 (by kernel_rfl) (by kernel_rfl) na fun xx => wp45 xx.1 xx.2.1
abbrev G39 : Gam := (45, cLoss) :: G38
theorem g39 : GamOk Tryz.prog G39 := .cons ok45 g38
def deliveredS (x : Int × Int × Int) (p : Int) : Int × Int := (max 0 (p - (lossS x p).2), max 0 (p - (lossS x p).1))
def cDelivered : Con := { args := [a3, aI], ress := [Pr], owns := [], pre := fun (x, p, _) => [lossOk x p], spec := fun (x, p, _) => (deliveredS x p, ()) }
theorem vc121 : ∀ (x : Int × Int × Int) (p : Int), wpF Tryz.prog G39 (na ()) Tryz.f121 cDelivered (x, p, ()) = (lossOk x p → lossOk (x.fst, x.snd.fst, x.snd.snd) p ∧ (((-9223372036854775808 : Int) ≤ p - (lossS (x.fst, x.snd.fst, x.snd.snd) p).snd ∧ p - (lossS (x.fst, x.snd.fst, x.snd.snd) p).snd ≤ (9223372036854775807 : Int)) ∧ (-9223372036854775808 : Int) ≤ p - (lossS (x.fst, x.snd.fst, x.snd.snd) p).fst ∧ p - (lossS (x.fst, x.snd.fst, x.snd.snd) p).fst ≤ (9223372036854775807 : Int)) ∧ (max (0 : Int) (p - (lossS (x.fst, x.snd.fst, x.snd.snd) p).snd), max (0 : Int) (p - (lossS (x.fst, x.snd.fst, x.snd.snd) p).fst)) = deliveredS x p) := by
  intros
  kernel_rfl
theorem wp121 (x : Int × Int × Int) (p : Int) : wpF Tryz.prog G39 (na ()) Tryz.f121 cDelivered (x, p, ()) := by
  refine (vc121 x p).mpr ?_
  intro hx
  have hb := lossS_bd hx
  have h4 := hx.2.2.2
  exact ⟨hx, ⟨by show -9223372036854775808 ≤ p - (lossS x p).2 ∧ p - (lossS x p).2 ≤ 9223372036854775807; omega, by show -9223372036854775808 ≤ p - (lossS x p).1 ∧ p - (lossS x p).1 ≤ 9223372036854775807; omega⟩, rfl⟩
theorem ok121 : Ok Tryz.prog 121 cDelivered := ok_of_wp mixed g39 (by kernel_rfl) (by kernel_rfl) na fun xx => wp121 xx.1 xx.2.1
abbrev G40 : Gam := (121, cDelivered) :: G39
theorem g40 : GamOk Tryz.prog G40 := .cons ok121 g39
theorem vc46 : ∀ (x : Int × Int × Int) (p : Int), wpF Tryz.prog G40 (na ()) Tryz.f46 cDelivered (x, p, ()) = (lossOk x p → lossOk (x.fst, x.snd.fst, x.snd.snd) p ∧ (((-9223372036854775808 : Int) ≤ p - (lossS (x.fst, x.snd.fst, x.snd.snd) p).snd ∧ p - (lossS (x.fst, x.snd.fst, x.snd.snd) p).snd ≤ (9223372036854775807 : Int)) ∧ (-9223372036854775808 : Int) ≤ p - (lossS (x.fst, x.snd.fst, x.snd.snd) p).fst ∧ p - (lossS (x.fst, x.snd.fst, x.snd.snd) p).fst ≤ (9223372036854775807 : Int)) ∧ (max (0 : Int) (p - (lossS (x.fst, x.snd.fst, x.snd.snd) p).snd), max (0 : Int) (p - (lossS (x.fst, x.snd.fst, x.snd.snd) p).fst)) = deliveredS x p) := by
  intros
  kernel_rfl
theorem wp46 (x : Int × Int × Int) (p : Int) : wpF Tryz.prog G40 (na ()) Tryz.f46 cDelivered (x, p, ()) := by
  refine (vc46 x p).mpr ?_
  intro hx
  have hb := lossS_bd hx
  have h4 := hx.2.2.2
  exact ⟨hx, ⟨by show -9223372036854775808 ≤ p - (lossS x p).2 ∧ p - (lossS x p).2 ≤ 9223372036854775807; omega, by show -9223372036854775808 ≤ p - (lossS x p).1 ∧ p - (lossS x p).1 ≤ 9223372036854775807; omega⟩, rfl⟩
theorem ok46 : Ok Tryz.prog 46 cDelivered := ok_of_wp mixed g40 (by kernel_rfl) (by kernel_rfl) na fun xx => wp46 xx.1 xx.2.1
abbrev G41 : Gam := (46, cDelivered) :: G40
theorem g41 : GamOk Tryz.prog G41 := .cons ok46 g40
def cXLoss : Con := { args := [a3, aI], ress := [Pr, I], owns := [], pre := fun _ => [], spec := fun (x, p, _) => (if checkLossS x p = 0 then lossS x p else (0, 0), checkLossS x p, ()) }
theorem withinS_zero {n lo hi : Int} (h : withinS n lo hi = 0) : lo ≤ n ∧ n ≤ hi := by
  unfold withinS at h
  by_cases h1 : n < lo
  · simp [h1] at h
  · by_cases h2 : hi < n
    · simp [h1, h2] at h
    · omega
theorem firstS_zero {x : Int} {l : List Int} : firstS (x :: l) = 0 ↔ x = 0 ∧ firstS l = 0 := by
  simp only [firstS]
  by_cases h : x = 0 <;> simp [h]
theorem checkLoss_ok {x : Int × Int × Int} {p : Int} (h : checkLossS x p = 0) : lossOk x p := by
  simp only [checkLossS, lossesS, firstS_zero] at h
  obtain ⟨⟨h1, h2, h3, _⟩, h4, _⟩ := h
  exact ⟨withinS_zero h1, withinS_zero h2, withinS_zero h3, withinS_zero h4⟩
theorem vc39 : ∀ (x : Int × Int × Int) (p : Int), wpF Tryz.prog G41 (na ()) Tryz.f39 cXLoss (x, p, ()) = (((checkLossS (x.fst, x.snd.fst, x.snd.snd) p != (0 : Int)) = true → (((0 : Int), (0 : Int)) = if checkLossS x p = (0 : Int) then lossS x p else ((0 : Int), (0 : Int))) ∧ checkLossS (x.fst, x.snd.fst, x.snd.snd) p = checkLossS x p) ∧ ((checkLossS (x.fst, x.snd.fst, x.snd.snd) p != (0 : Int)) = false → lossOk (x.fst, x.snd.fst, x.snd.snd) p ∧ (((lossS (x.fst, x.snd.fst, x.snd.snd) p).fst, (lossS (x.fst, x.snd.fst, x.snd.snd) p).snd) = if checkLossS x p = (0 : Int) then lossS x p else ((0 : Int), (0 : Int))) ∧ (0 : Int) = checkLossS x p)) := by
  intros
  kernel_rfl
theorem wp39 (x : Int × Int × Int) (p : Int) : wpF Tryz.prog G41 (na ()) Tryz.f39 cXLoss (x, p, ()) := by
  refine (vc39 x p).mpr ?_
  refine ⟨fun h => ?_, fun h => ?_⟩
  · have h0 : ¬ checkLossS x p = 0 := by intro e; rw [show checkLossS (x.1, x.2.1, x.2.2) p = checkLossS x p from rfl, e] at h; simp at h
    rw [if_neg h0]; exact ⟨rfl, rfl⟩
  · have h0 : checkLossS x p = 0 := by have : checkLossS (x.1, x.2.1, x.2.2) p = 0 := by simpa using h
                                       exact this
    rw [if_pos h0]
    exact ⟨checkLoss_ok h0, rfl, h0.symm⟩
theorem ok39 : Ok Tryz.prog 39 cXLoss := ok_of_wp mixed g41 (by kernel_rfl) (by kernel_rfl) na fun xx => wp39 xx.1 xx.2.1
abbrev G42 : Gam := (39, cXLoss) :: G41
theorem g42 : GamOk Tryz.prog G42 := .cons ok39 g41
def cXDelivered : Con := { args := [a3, aI], ress := [Pr, I], owns := [], pre := fun _ => [], spec := fun (x, p, _) => (if checkLossS x p = 0 then deliveredS x p else (0, 0), checkLossS x p, ()) }
theorem vc40 : ∀ (x : Int × Int × Int) (p : Int), wpF Tryz.prog G42 (na ()) Tryz.f40 cXDelivered (x, p, ()) = (((checkLossS (x.fst, x.snd.fst, x.snd.snd) p != (0 : Int)) = true → (((0 : Int), (0 : Int)) = if checkLossS x p = (0 : Int) then deliveredS x p else ((0 : Int), (0 : Int))) ∧ checkLossS (x.fst, x.snd.fst, x.snd.snd) p = checkLossS x p) ∧ ((checkLossS (x.fst, x.snd.fst, x.snd.snd) p != (0 : Int)) = false → lossOk (x.fst, x.snd.fst, x.snd.snd) p ∧ (((deliveredS (x.fst, x.snd.fst, x.snd.snd) p).fst, (deliveredS (x.fst, x.snd.fst, x.snd.snd) p).snd) = if checkLossS x p = (0 : Int) then deliveredS x p else ((0 : Int), (0 : Int))) ∧ (0 : Int) = checkLossS x p)) := by
  intros
  kernel_rfl
theorem wp40 (x : Int × Int × Int) (p : Int) : wpF Tryz.prog G42 (na ()) Tryz.f40 cXDelivered (x, p, ()) := by
  refine (vc40 x p).mpr ?_
  refine ⟨fun h => ?_, fun h => ?_⟩
  · have h0 : ¬ checkLossS x p = 0 := by intro e; rw [show checkLossS (x.1, x.2.1, x.2.2) p = checkLossS x p from rfl, e] at h; simp at h
    rw [if_neg h0]; exact ⟨rfl, rfl⟩
  · have h0 : checkLossS x p = 0 := by have : checkLossS (x.1, x.2.1, x.2.2) p = 0 := by simpa using h
                                       exact this
    rw [if_pos h0]
    exact ⟨checkLoss_ok h0, rfl, h0.symm⟩
theorem ok40 : Ok Tryz.prog 40 cXDelivered := ok_of_wp mixed g42 (by kernel_rfl) (by kernel_rfl) na fun xx => wp40 xx.1 xx.2.1
abbrev G43 : Gam := (40, cXDelivered) :: G42
theorem g43 : GamOk Tryz.prog G43 := .cons ok40 g42

def neededGo (x : Int × Int × Int) (p n : Int) : Nat → Option Int
  | 0 => none
  | f + 1 => if p ≤ (deliveredS x n).1 then some n else neededGo x p (n + 1) f
def neededS (x : Int × Int × Int) (p : Int) : Option Int := neededGo x p p (1001 - p).toNat
def cXNeeded : Con := { args := [a3, aI], ress := [I, I], owns := [], pre := fun _ => [], spec := fun (x, p, _) => (if checkLossS x p = 0 then (neededS x p).getD 0 else 0, if checkLossS x p = 0 then (match neededS x p with | some _ => 0 | none => 7) else checkLossS x p, ()) }
abbrev annNeeded (x : Int × Int × Int) (p : Int) : Ann := { X := Int, σ := fun n => ⟨1, [(2, .one (.ptr 0 0)), (1, .one (.int .i64 p)), (7, .one (.int .i64 n))], [(0, .box 69 [.int .i64 x.1, .int .i64 x.2.1, .int .i64 x.2.2])]⟩, inv := fun n => p ≤ n ∧ n ≤ 1001 ∧ lossOk x p ∧ checkLossS x p = 0 ∧ neededS x p = neededGo x p n (1001 - n).toNat, mu := fun n => (1001 - n).toNat }
theorem neededGo_step {x : Int × Int × Int} {p n : Int} (h : n ≤ 1000) : neededGo x p n (1001 - n).toNat = if p ≤ (deliveredS x n).1 then some n else neededGo x p (n + 1) (1001 - (n + 1)).toNat := by
  rw [show (1001 - n).toNat = (1001 - (n + 1)).toNat + 1 by omega]
  rfl
theorem vc41 : ∀ (x : Int × Int × Int) (p : Int), wpF Tryz.prog G43 (ann0 (annNeeded x p)) Tryz.f41 cXNeeded (x, p, ()) = (((checkLossS (x.fst, x.snd.fst, x.snd.snd) p != (0 : Int)) = true → ((0 : Int) = if checkLossS x p = (0 : Int) then Option.getD (neededS x p) (0 : Int) else (0 : Int)) ∧ checkLossS (x.fst, x.snd.fst, x.snd.snd) p = if checkLossS x p = (0 : Int) then match neededS x p with | some val => (0 : Int) | none => (7 : Int) else checkLossS x p) ∧ ((checkLossS (x.fst, x.snd.fst, x.snd.snd) p != (0 : Int)) = false → ∃ (x_1 : Int), (p = p ∧ p = x_1 ∧ x.fst = x.fst ∧ x.snd.fst = x.snd.fst ∧ x.snd.snd = x.snd.snd) ∧ (p ≤ x_1 ∧ x_1 ≤ (1001 : Int) ∧ lossOk x p ∧ checkLossS x p = (0 : Int) ∧ neededS x p = neededGo x p x_1 (Int.toNat ((1001 : Int) - x_1))) ∧ ∀ (x_2 : Int), p ≤ x_2 ∧ x_2 ≤ (1001 : Int) ∧ lossOk x p ∧ checkLossS x p = (0 : Int) ∧ neededS x p = neededGo x p x_2 (Int.toNat ((1001 : Int) - x_2)) → (decide (x_2 ≤ (1000 : Int)) = true → lossOk (x.fst, x.snd.fst, x.snd.snd) x_2 ∧ (decide (p ≤ (deliveredS (x.fst, x.snd.fst, x.snd.snd) x_2).fst) = true → (x_2 = if checkLossS x p = (0 : Int) then Option.getD (neededS x p) (0 : Int) else (0 : Int)) ∧ (0 : Int) = if checkLossS x p = (0 : Int) then match neededS x p with | some val => (0 : Int) | none => (7 : Int) else checkLossS x p) ∧ (decide (p ≤ (deliveredS (x.fst, x.snd.fst, x.snd.snd) x_2).fst) = false → ((-9223372036854775808 : Int) ≤ x_2 + (1 : Int) ∧ x_2 + (1 : Int) ≤ (9223372036854775807 : Int)) ∧ ∃ (y : Int), (p = p ∧ x_2 + (1 : Int) = y ∧ x.fst = x.fst ∧ x.snd.fst = x.snd.fst ∧ x.snd.snd = x.snd.snd) ∧ (p ≤ y ∧ y ≤ (1001 : Int) ∧ lossOk x p ∧ checkLossS x p = (0 : Int) ∧ neededS x p = neededGo x p y (Int.toNat ((1001 : Int) - y))) ∧ Int.toNat ((1001 : Int) - y) < Int.toNat ((1001 : Int) - x_2))) ∧ (decide (x_2 ≤ (1000 : Int)) = false → ((0 : Int) = if checkLossS x p = (0 : Int) then Option.getD (neededS x p) (0 : Int) else (0 : Int)) ∧ (7 : Int) = if checkLossS x p = (0 : Int) then match neededS x p with | some val => (0 : Int) | none => (7 : Int) else checkLossS x p))) := by
  intros
  kernel_rfl
theorem wp41 (x : Int × Int × Int) (p : Int) : wpF Tryz.prog G43 (ann0 (annNeeded x p)) Tryz.f41 cXNeeded (x, p, ()) := by
  refine (vc41 x p).mpr ?_
  refine ⟨fun h => ?_, fun h => ?_⟩
  · have h0 : ¬ checkLossS x p = 0 := by intro e; rw [show checkLossS (x.1, x.2.1, x.2.2) p = checkLossS x p from rfl, e] at h; simp at h
    rw [if_neg h0, if_neg h0]; exact ⟨rfl, rfl⟩
  · have h0 : checkLossS x p = 0 := by have : checkLossS (x.1, x.2.1, x.2.2) p = 0 := by simpa using h
                                       exact this
    have hok := checkLoss_ok h0
    have h4 := hok.2.2.2
    simp only [if_pos h0]
    refine ⟨p, by simp, ⟨Int.le_refl _, by omega, hok, h0, rfl⟩, fun n hn => ⟨fun h => ?_, fun h => ?_⟩⟩
    · have hle : n ≤ 1000 := by simpa using h
      obtain ⟨n1, n2, n3, _, n5⟩ := hn
      have hs := neededGo_step (x := x) (p := p) hle
      refine ⟨⟨n3.1, n3.2.1, n3.2.2.1, by omega, hle⟩, fun h1 => ?_, fun h1 => ⟨by omega, n + 1, by simp, ⟨by omega, by omega, n3, h0, ?_⟩, by omega⟩⟩
      · have h1' : p ≤ (deliveredS x n).1 := by simpa using h1
        rw [n5, hs, if_pos h1']
        exact ⟨rfl, rfl⟩
      · have h1' : ¬ p ≤ (deliveredS x n).1 := by
          have : ¬ p ≤ (deliveredS (x.1, x.2.1, x.2.2) n).1 := by simpa using h1
          exact this
        rw [n5, hs, if_neg h1']
    · have hle : ¬ n ≤ 1000 := by simpa using h
      obtain ⟨n1, n2, n3, _, n5⟩ := hn
      have : (1001 - n).toNat = 0 := by omega
      rw [n5, this]
      exact ⟨rfl, rfl⟩
theorem ok41 : Ok Tryz.prog 41 cXNeeded := ok_of_wp mixed g43 (by kernel_rfl) (by kernel_rfl) (fun xx => ann0 (annNeeded xx.1 xx.2.1)) fun xx => wp41 xx.1 xx.2.1
abbrev G44 : Gam := (41, cXNeeded) :: G43
theorem g44 : GamOk Tryz.prog G44 := .cons ok41 g43
end Go.Proofs.YtacaadhlobbemaaGreatDoor
namespace Go.Proofs.YtacaadhlobbemaaGreatDoor
open Go.Sx
theorem lineGo_zero {l : List (Int × Int)} (h : lineGo l none = 0) : ∀ k, k ≤ l.length → lineGo (l.drop k) (lastOf l k) = 0
  | 0, _ => by simpa [lastOf] using h
  | k + 1, hk => by
    have ih := lineGo_zero h k (by omega)
    rw [lineGo_drop (by omega)] at ih
    simp only at ih
    split at ih
    · rename_i h1; exact absurd ih h1
    · split at ih
      · simp at ih
      · exact ih
theorem line_at {l : List (Int × Int)} (h : lineGo l none = 0) {k : Nat} (hk : k < l.length) : (0 ≤ (l.getD k (0, 0)).1 ∧ (l.getD k (0, 0)).1 ≤ 1000 ∧ -1000 ≤ (l.getD k (0, 0)).2 ∧ (l.getD k (0, 0)).2 ≤ 1000) ∧
    (0 < k → (l.getD (k - 1) (0, 0)).1 < (l.getD k (0, 0)).1 ∧ (l.getD k (0, 0)).2 < (l.getD (k - 1) (0, 0)).2) := by
  have h0 := lineGo_zero h k (by omega)
  rw [lineGo_drop hk] at h0
  simp only at h0
  split at h0
  · rename_i h1; exact absurd h0 h1
  · rename_i h1
    have h1' : firstS [withinS (l.getD k (0, 0)).1 0 1000, withinS (l.getD k (0, 0)).2 (-1000) 1000] = 0 := by simpa using h1
    rw [firstS_zero, firstS_zero] at h1'
    have w1 := withinS_zero h1'.1
    have w2 := withinS_zero h1'.2.1
    refine ⟨⟨w1.1, w1.2, w2.1, w2.2⟩, fun hk0 => ?_⟩
    split at h0
    · simp at h0
    · rename_i h2
      simp only [hk0, true_and, not_or] at h2
      omega
theorem line_ok {l : List (Int × Int)} (h : lineS l = 0) : lineOk l ∧ lineGo l none = 0 := by
  unfold lineS at h
  split at h
  · simp at h
  · split at h
    · simp at h
    · rename_i h1 h2
      refine ⟨⟨by omega, by omega, fun x hx => ?_⟩, h⟩
      obtain ⟨k, hk, rfl⟩ := List.getElem_of_mem hx
      have := (line_at h hk).1
      simpa [List.getD_eq_getElem?_getD, hk] using this
theorem idxS_spec {α : Type} {f : α → Bool} {d : α} : ∀ {l : List α} {k : Nat} {i : Int}, idxS f l k = i → 0 ≤ i → f (l.getD (i.toNat - k) d) = true
  | [], k, i, h, h0 => by simp [idxS] at h; omega
  | x :: l, k, i, h, h0 => by
    simp only [idxS] at h
    split at h
    · rename_i hf
      subst h
      simpa using hf
    · have hb := idxS_bd (f := f) (l := l) (k := k + 1)
      have h' : idxS f l ((k + 1 : Nat) : Int) = i := by simpa using h
      rw [h'] at hb
      have hi : (k : Int) + 1 ≤ i := by rcases hb with hb | ⟨hb, _⟩ <;> omega
      have ih := idxS_spec (d := d) h' h0
      rw [show i.toNat - k = (i.toNat - (k + 1)) + 1 by omega]
      simpa using ih
theorem piece_ok {l : List (Int × Int)} {v : Int} (h : lineS l = 0) (h1 : (l.getD 0 (0, 0)).1 ≤ v) : 0 ≤ pieceS l v ∧ pieceS l v + 1 < l.length ∧ (gP l (pieceS l v)).1 < (gP l (pieceS l v + 1)).1 := by
  obtain ⟨ho, hg⟩ := line_ok h
  have hb := idxS_bd (f := fun x : Int × Int => decide (v < x.1)) (l := l) (k := 0)
  have key : ∀ i : Int, 0 ≤ i → i + 1 < l.length → (gP l i).1 < (gP l (i + 1)).1 := by
    intro i hi hl
    have := (line_at hg (k := (i + 1).toNat) (by omega)).2 (by omega)
    unfold gP
    rw [show i.toNat = (i + 1).toNat - 1 by omega]
    exact this.1
  have hl := ho.1
  unfold pieceS
  generalize hi : idxS (fun x : Int × Int => decide (v < x.1)) l 0 = i at *
  change i = -1 ∨ (0 : Int) ≤ i ∧ i < 0 + (l.length : Int) at hb
  simp only
  split
  · exact ⟨by omega, by omega, key _ (by omega) (by omega)⟩
  · have hne : i ≠ 0 := by
      intro e
      have := idxS_spec (d := (0, 0)) hi (by omega)
      rw [e] at this
      have : v < (l.getD 0 (0, 0)).1 := by simpa using this
      omega
    refine ⟨by omega, by omega, key _ (by omega) (by omega)⟩
def xAtS (l : List (Int × Int)) (v : Int) : (Int × Int) × Int := if lineS l ≠ 0 then ((0, 0), lineS l) else if hasS l v = true then (atS l v, 0) else ((0, 0), 14)
def cXAt : Con := { args := [aL 176, aI], ress := [Pr, I], owns := [], pre := fun _ => [], spec := fun (l, v, _) => ((xAtS l v).1, (xAtS l v).2, ()) }
theorem vc17 : ∀ (l : List (Int × Int)) (v : Int), wpF Tryz.prog G44 (na ()) Tryz.f17 cXAt (l, v, ()) = (((lineS l != (0 : Int)) = true → ((0 : Int), (0 : Int)) = (xAtS l v).fst ∧ lineS l = (xAtS l v).snd) ∧ ((lineS l != (0 : Int)) = false → ((0 : Nat) < List.length l ∧ List.length l ≤ (1000000 : Nat)) ∧ ((!(decide ((endsS l).fst ≤ v) && decide (v ≤ (endsS l).snd))) = true → ((0 : Int), (0 : Int)) = (xAtS l v).fst ∧ (14 : Int) = (xAtS l v).snd) ∧ ((!(decide ((endsS l).fst ≤ v) && decide (v ≤ (endsS l).snd))) = false → (lineOk l ∧ ((0 : Int) ≤ v ∧ v ≤ (1000 : Int)) ∧ ((0 : Int) ≤ pieceS l v ∧ pieceS l v + (1 : Int) < (↑(List.length l) : Int)) ∧ (gP l (pieceS l v)).fst < (gP l (pieceS l v + (1 : Int))).fst) ∧ ((atS l v).fst, (atS l v).snd) = (xAtS l v).fst ∧ (0 : Int) = (xAtS l v).snd))) := by
  intros
  kernel_rfl
theorem wp17 (l : List (Int × Int)) (v : Int) : wpF Tryz.prog G44 (na ()) Tryz.f17 cXAt (l, v, ()) := by
  refine (vc17 l v).mpr ?_
  refine ⟨fun h => ?_, fun h => ?_⟩
  · have h0 : lineS l ≠ 0 := by simpa using h
    simp [xAtS, h0]
  · have h0 : lineS l = 0 := by simpa using h
    obtain ⟨ho, hg⟩ := line_ok h0
    have hl := ho.1
    refine ⟨⟨by omega, by have := ho.2.1; omega⟩, fun h1 => ?_, fun h1 => ?_⟩
    · have h1' : hasS l v = false := by have e : (!hasS l v) = true := h1; simpa using e
      simp [xAtS, h0, h1']
    · have h1' : hasS l v = true := by have e : (!hasS l v) = false := h1; simpa using e
      have h2 : (l.getD 0 (0, 0)).1 ≤ v ∧ v ≤ (l.getD (l.length - 1) (0, 0)).1 := by simpa [hasS] using h1'
      have hp := piece_ok h0 h2.1
      have b1 := (line_at hg (k := 0) (by omega)).1
      have b2 := (line_at hg (k := l.length - 1) (by omega)).1
      refine ⟨⟨ho, ⟨by omega, by omega⟩, ⟨hp.1, hp.2.1⟩, hp.2.2⟩, ?_⟩
      simp [xAtS, h0, h1']
theorem ok17 : Ok Tryz.prog 17 cXAt := ok_of_wp mixed g44 (by kernel_rfl) (by kernel_rfl) na fun xx => wp17 xx.1 xx.2.1
abbrev G45 : Gam := (17, cXAt) :: G44
theorem g45 : GamOk Tryz.prog G45 := .cons ok17 g44
def checkAtS (l : List (Int × Int)) (v : Int) : Int := if lineS l ≠ 0 then lineS l else if hasS l v = true then 0 else 14
def cCheckAt : Con := { args := [aL 132, aI], ress := [I], owns := [], pre := fun _ => [], spec := fun (l, v, _) => (checkAtS l v, ()) }
theorem vc20 : ∀ (l : List (Int × Int)) (v : Int), wpF Tryz.prog G45 (na ()) Tryz.f20 cCheckAt (l, v, ()) = (((lineS l != (0 : Int)) = true → lineS l = checkAtS l v) ∧ ((lineS l != (0 : Int)) = false → ((0 : Nat) < List.length l ∧ List.length l ≤ (1000000 : Nat)) ∧ ((!hasS l v) = true → (14 : Int) = checkAtS l v) ∧ ((!hasS l v) = false → (0 : Int) = checkAtS l v))) := by
  intros
  kernel_rfl
theorem wp20 (l : List (Int × Int)) (v : Int) : wpF Tryz.prog G45 (na ()) Tryz.f20 cCheckAt (l, v, ()) := by
  refine (vc20 l v).mpr ?_
  refine ⟨fun h => ?_, fun h => ?_⟩
  · have h0 : lineS l ≠ 0 := by simpa using h
    simp [checkAtS, h0]
  · have h0 : lineS l = 0 := by simpa using h
    obtain ⟨ho, hg⟩ := line_ok h0
    have hl := ho.1
    refine ⟨⟨by omega, by have := ho.2.1; omega⟩, fun h1 => ?_, fun h1 => ?_⟩
    · have h1' : hasS l v = false := by simpa using h1
      simp [checkAtS, h0, h1']
    · have h1' : hasS l v = true := by simpa using h1
      simp [checkAtS, h0, h1']
theorem ok20 : Ok Tryz.prog 20 cCheckAt := ok_of_wp mixed g45 (by kernel_rfl) (by kernel_rfl) na fun xx => wp20 xx.1 xx.2.1
abbrev G46 : Gam := (20, cCheckAt) :: G45
theorem g46 : GamOk Tryz.prog G46 := .cons ok20 g45
def cRDivisor : Con := { args := [aI, aI], ress := [I], owns := [], pre := fun (n, d, _) => [-9200000000000000000 ≤ n ∧ n ≤ 9200000000000000000, -9200000000000000000 ≤ d ∧ d ≤ 9200000000000000000], spec := fun (n, d, _) => (gcdS n d, ()) }
abbrev annRDiv (n d : Int) : Ann := { X := Int × Int, σ := fun (a, b) => ⟨0, [(0, .one (.int .i64 a)), (1, .one (.int .i64 b))], []⟩, inv := fun (a, b) => (-9200000000000000000 ≤ a ∧ a ≤ 9200000000000000000) ∧ (-9200000000000000000 ≤ b ∧ b ≤ 9200000000000000000) ∧ Int.gcd a b = Int.gcd n d, mu := fun (_, b) => b.natAbs }
theorem vc79 : ∀ (n d : Int), wpF Tryz.prog G46 (ann0 (annRDiv n d)) Tryz.f79 cRDivisor (n, d, ()) = ((-9200000000000000000 : Int) ≤ n ∧ n ≤ (9200000000000000000 : Int) → (-9200000000000000000 : Int) ≤ d ∧ d ≤ (9200000000000000000 : Int) → ∃ (x : Int × Int), (n = x.1 ∧ d = x.2) ∧ (((-9200000000000000000 : Int) ≤ x.fst ∧ x.fst ≤ (9200000000000000000 : Int)) ∧ ((-9200000000000000000 : Int) ≤ x.snd ∧ x.snd ≤ (9200000000000000000 : Int)) ∧ Int.gcd x.fst x.snd = Int.gcd n d) ∧ ∀ (x : Int × Int), ((-9200000000000000000 : Int) ≤ x.fst ∧ x.fst ≤ (9200000000000000000 : Int)) ∧ ((-9200000000000000000 : Int) ≤ x.snd ∧ x.snd ≤ (9200000000000000000 : Int)) ∧ Int.gcd x.fst x.snd = Int.gcd n d → ((x.2 != (0 : Int)) = true → (x.2 = (0 : Int) → False) ∧ ∃ (y : Int × Int), (x.2 = y.1 ∧ Int.tmod x.1 x.2 = y.2) ∧ (((-9200000000000000000 : Int) ≤ y.fst ∧ y.fst ≤ (9200000000000000000 : Int)) ∧ ((-9200000000000000000 : Int) ≤ y.snd ∧ y.snd ≤ (9200000000000000000 : Int)) ∧ Int.gcd y.fst y.snd = Int.gcd n d) ∧ Int.natAbs y.snd < Int.natAbs x.snd) ∧ ((x.2 != (0 : Int)) = false → (decide (x.1 < (0 : Int)) = true → ((-9223372036854775808 : Int) ≤ (0 : Int) - x.1 ∧ (0 : Int) - x.1 ≤ (9223372036854775807 : Int)) ∧ (0 : Int) - x.1 = gcdS n d) ∧ (decide (x.1 < (0 : Int)) = false → x.1 = gcdS n d))) := by
  intros
  kernel_rfl
theorem wp79 (n d : Int) : wpF Tryz.prog G46 (ann0 (annRDiv n d)) Tryz.f79 cRDivisor (n, d, ()) := by
  refine (vc79 n d).mpr ?_
  intro h1 h2
  refine ⟨(n, d), ⟨rfl, rfl⟩, ⟨h1, h2, rfl⟩, fun (x : Int × Int) hx => ⟨fun h => ?_, fun h => ?_⟩⟩
  · obtain ⟨a, b⟩ := x
    obtain ⟨i1, i2, i3⟩ := hx
    dsimp only at *
    have hb : b ≠ 0 := by simpa using h
    have e1 : (a.tmod b).natAbs = a.natAbs % b.natAbs := Int.natAbs_tmod a b
    have hlt : a.natAbs % b.natAbs < b.natAbs := Nat.mod_lt _ (by omega)
    refine ⟨hb, (b, a.tmod b), ⟨rfl, rfl⟩, ⟨i2, by omega, ?_⟩, by show (a.tmod b).natAbs < b.natAbs; omega⟩
    rw [← i3]
    show Nat.gcd b.natAbs (a.tmod b).natAbs = Nat.gcd a.natAbs b.natAbs
    rw [e1, Nat.gcd_comm, ← Nat.gcd_rec, Nat.gcd_comm]
  · obtain ⟨a, b⟩ := x
    obtain ⟨i1, i2, i3⟩ := hx
    dsimp only at *
    have hb : b = 0 := by simpa using h
    subst hb
    have e : (a.natAbs : Int) = gcdS n d := by rw [gcdS, ← i3, Int.gcd_zero_right]
    refine ⟨fun h3 => ⟨by omega, ?_⟩, fun h3 => ?_⟩
    · have : a < 0 := by simpa using h3
      omega
    · have : ¬ a < 0 := by simpa using h3
      omega
theorem ok79 : Ok Tryz.prog 79 cRDivisor := ok_of_wp mixed g46 (by kernel_rfl) (by kernel_rfl) (fun xx => ann0 (annRDiv xx.1 xx.2.1)) fun xx => wp79 xx.1 xx.2.1
abbrev G47 : Gam := (79, cRDivisor) :: G46
theorem g47 : GamOk Tryz.prog G47 := .cons ok79 g46
def cRLowest : Con := { args := [aI, aI], ress := [Pr], owns := [], pre := fun (n, den, _) => [-9200000000000000000 ≤ n ∧ n ≤ 9200000000000000000, 0 < den ∧ den ≤ 9200000000000000000], spec := fun (n, den, _) => (lowestS n den, ()) }
theorem vc22 : ∀ (n den : Int), wpF Tryz.prog G47 (na ()) Tryz.f22 cRLowest (n, den, ()) = ((-9200000000000000000 : Int) ≤ n ∧ n ≤ (9200000000000000000 : Int) → (0 : Int) < den ∧ den ≤ (9200000000000000000 : Int) → (decide (den < (0 : Int)) = true → (((-9223372036854775808 : Int) ≤ (0 : Int) - n ∧ (0 : Int) - n ≤ (9223372036854775807 : Int)) ∧ (-9223372036854775808 : Int) ≤ (0 : Int) - den ∧ (0 : Int) - den ≤ (9223372036854775807 : Int)) ∧ (((-9200000000000000000 : Int) ≤ (0 : Int) - n ∧ (0 : Int) - n ≤ (9200000000000000000 : Int)) ∧ (-9200000000000000000 : Int) ≤ (0 : Int) - den ∧ (0 : Int) - den ≤ (9200000000000000000 : Int)) ∧ ((gcdS ((0 : Int) - n) ((0 : Int) - den) = (0 : Int) → False) ∧ ((-9223372036854775808 : Int) ≤ Int.tdiv ((0 : Int) - n) (gcdS ((0 : Int) - n) ((0 : Int) - den)) ∧ Int.tdiv ((0 : Int) - n) (gcdS ((0 : Int) - n) ((0 : Int) - den)) ≤ (9223372036854775807 : Int)) ∧ (gcdS ((0 : Int) - n) ((0 : Int) - den) = (0 : Int) → False) ∧ (-9223372036854775808 : Int) ≤ Int.tdiv ((0 : Int) - den) (gcdS ((0 : Int) - n) ((0 : Int) - den)) ∧ Int.tdiv ((0 : Int) - den) (gcdS ((0 : Int) - n) ((0 : Int) - den)) ≤ (9223372036854775807 : Int)) ∧ (Int.tdiv ((0 : Int) - n) (gcdS ((0 : Int) - n) ((0 : Int) - den)), Int.tdiv ((0 : Int) - den) (gcdS ((0 : Int) - n) ((0 : Int) - den))) = lowestS n den) ∧ (decide (den < (0 : Int)) = false → (((-9200000000000000000 : Int) ≤ n ∧ n ≤ (9200000000000000000 : Int)) ∧ (-9200000000000000000 : Int) ≤ den ∧ den ≤ (9200000000000000000 : Int)) ∧ ((gcdS n den = (0 : Int) → False) ∧ ((-9223372036854775808 : Int) ≤ Int.tdiv n (gcdS n den) ∧ Int.tdiv n (gcdS n den) ≤ (9223372036854775807 : Int)) ∧ (gcdS n den = (0 : Int) → False) ∧ (-9223372036854775808 : Int) ≤ Int.tdiv den (gcdS n den) ∧ Int.tdiv den (gcdS n den) ≤ (9223372036854775807 : Int)) ∧ (Int.tdiv n (gcdS n den), Int.tdiv den (gcdS n den)) = lowestS n den)) := by
  intros
  kernel_rfl
theorem wp22 (n den : Int) : wpF Tryz.prog G47 (na ()) Tryz.f22 cRLowest (n, den, ()) := by
  refine (vc22 n den).mpr ?_
  intro h1 h2
  have hg := gcdS_pos (n := n) h2.1
  have b1 := tdiv_bd (g := gcdS n den) (B := 9200000000000000000) ⟨by omega, h1.2⟩
  have b2 := tdiv_bd (a := den) (g := gcdS n den) (B := 9200000000000000000) ⟨by omega, h2.2⟩
  refine ⟨fun h => ?_, fun h => ⟨by omega, ⟨by omega, by omega, by omega, by omega⟩, rfl⟩⟩
  have : den < 0 := by simpa using h
  omega
theorem ok22 : Ok Tryz.prog 22 cRLowest := ok_of_wp mixed g47 (by kernel_rfl) (by kernel_rfl) na fun xx => wp22 xx.1 xx.2.1
abbrev G48 : Gam := (22, cRLowest) :: G47
theorem g48 : GamOk Tryz.prog G48 := .cons ok22 g47

def rIdx (l : List (Int × Int)) (v : Int) : Nat → Nat → Nat
  | i, 0 => i
  | i, f + 1 => if (l.getD i (0, 0)).1 < v then rIdx l v (i + 1) f else i
def rPiece (l : List (Int × Int)) (v : Int) : Nat := rIdx l v 1 l.length
def rAtS (l : List (Int × Int)) (v : Int) : Int × Int :=
  let a := l.getD (rPiece l v - 1) (0, 0)
  let b := l.getD (rPiece l v) (0, 0)
  (a.2 * (b.1 - a.1) + (b.2 - a.2) * (v - a.1), b.1 - a.1)
def cRAt : Con := { args := [aL 132, aI], ress := [I, I], owns := [], pre := fun (l, v, _) => [checkAtS l v = 0], spec := fun (l, v, _) => ((rAtS l v).1, (rAtS l v).2, ()) }
abbrev annRAt (l : List (Int × Int)) (v : Int) : Ann := { X := Nat, σ := fun k => ⟨1, [(0, .one (.sl 0)), (1, .one (.int .i64 v)), (6, .one (.int .i64 k))], [(0, .imm 132 sPt l)]⟩, inv := fun k => 1 ≤ k ∧ k < l.length ∧ checkAtS l v = 0 ∧ rPiece l v = rIdx l v k (l.length + 1 - k), mu := fun k => l.length - k }
theorem checkAt_ok {l : List (Int × Int)} {v : Int} (h : checkAtS l v = 0) : lineS l = 0 ∧ (l.getD 0 (0, 0)).1 ≤ v ∧ v ≤ (l.getD (l.length - 1) (0, 0)).1 := by
  unfold checkAtS at h
  split at h
  · rename_i h1; exact absurd h h1
  · rename_i h1
    split at h
    · rename_i h2
      exact ⟨by simpa using h1, by simpa [hasS] using h2⟩
    · simp at h
theorem vc21 : ∀ (l : List (Int × Int)) (v : Int), wpF Tryz.prog G48 (ann0 (annRAt l v)) Tryz.f21 cRAt (l, v, ()) = (checkAtS l v = (0 : Int) → ∃ (x : Nat), (v = v ∧ (1 : Int) = (↑x : Int) ∧ l = l) ∧ ((1 : Nat) ≤ x ∧ x < List.length l ∧ checkAtS l v = (0 : Int) ∧ rPiece l v = rIdx l v x (List.length l + (1 : Nat) - x)) ∧ ∀ (x : Nat), (1 : Nat) ≤ x ∧ x < List.length l ∧ checkAtS l v = (0 : Int) ∧ rPiece l v = rIdx l v x (List.length l + (1 : Nat) - x) → (((0 : Int) ≤ (↑x : Int) ∧ (↑x : Int) < (↑(List.length l) : Int)) ∧ (0 : Int) ≤ (↑x : Int) ∧ (↑x : Int) < (↑(List.length l) : Int)) ∧ (decide ((List.getD l x ((0 : Int), (0 : Int))).fst < v) = true → ((-9223372036854775808 : Int) ≤ (↑x : Int) + (1 : Int) ∧ (↑x : Int) + (1 : Int) ≤ (9223372036854775807 : Int)) ∧ ∃ (y : Nat), (v = v ∧ (↑x : Int) + (1 : Int) = (↑y : Int) ∧ l = l) ∧ ((1 : Nat) ≤ y ∧ y < List.length l ∧ checkAtS l v = (0 : Int) ∧ rPiece l v = rIdx l v y (List.length l + (1 : Nat) - y)) ∧ List.length l - y < List.length l - x) ∧ (decide ((List.getD l x ((0 : Int), (0 : Int))).fst < v) = false → (((-9223372036854775808 : Int) ≤ (↑x : Int) - (1 : Int) ∧ (↑x : Int) - (1 : Int) ≤ (9223372036854775807 : Int)) ∧ ((0 : Int) ≤ (↑x : Int) - (1 : Int) ∧ (↑x : Int) - (1 : Int) < (↑(List.length l) : Int)) ∧ ((0 : Int) ≤ (↑x : Int) - (1 : Int) ∧ (↑x : Int) - (1 : Int) < (↑(List.length l) : Int)) ∧ ((0 : Int) ≤ (↑x : Int) ∧ (↑x : Int) < (↑(List.length l) : Int)) ∧ (0 : Int) ≤ (↑x : Int) ∧ (↑x : Int) < (↑(List.length l) : Int)) ∧ ((-9223372036854775808 : Int) ≤ (List.getD l x ((0 : Int), (0 : Int))).fst - (List.getD l (Int.toNat ((↑x : Int) - (1 : Int))) ((0 : Int), (0 : Int))).fst ∧ (List.getD l x ((0 : Int), (0 : Int))).fst - (List.getD l (Int.toNat ((↑x : Int) - (1 : Int))) ((0 : Int), (0 : Int))).fst ≤ (9223372036854775807 : Int)) ∧ (((-9223372036854775808 : Int) ≤ (List.getD l (Int.toNat ((↑x : Int) - (1 : Int))) ((0 : Int), (0 : Int))).snd * ((List.getD l x ((0 : Int), (0 : Int))).fst - (List.getD l (Int.toNat ((↑x : Int) - (1 : Int))) ((0 : Int), (0 : Int))).fst) ∧ (List.getD l (Int.toNat ((↑x : Int) - (1 : Int))) ((0 : Int), (0 : Int))).snd * ((List.getD l x ((0 : Int), (0 : Int))).fst - (List.getD l (Int.toNat ((↑x : Int) - (1 : Int))) ((0 : Int), (0 : Int))).fst) ≤ (9223372036854775807 : Int)) ∧ ((-9223372036854775808 : Int) ≤ (List.getD l x ((0 : Int), (0 : Int))).snd - (List.getD l (Int.toNat ((↑x : Int) - (1 : Int))) ((0 : Int), (0 : Int))).snd ∧ (List.getD l x ((0 : Int), (0 : Int))).snd - (List.getD l (Int.toNat ((↑x : Int) - (1 : Int))) ((0 : Int), (0 : Int))).snd ≤ (9223372036854775807 : Int)) ∧ ((-9223372036854775808 : Int) ≤ v - (List.getD l (Int.toNat ((↑x : Int) - (1 : Int))) ((0 : Int), (0 : Int))).fst ∧ v - (List.getD l (Int.toNat ((↑x : Int) - (1 : Int))) ((0 : Int), (0 : Int))).fst ≤ (9223372036854775807 : Int)) ∧ ((-9223372036854775808 : Int) ≤ ((List.getD l x ((0 : Int), (0 : Int))).snd - (List.getD l (Int.toNat ((↑x : Int) - (1 : Int))) ((0 : Int), (0 : Int))).snd) * (v - (List.getD l (Int.toNat ((↑x : Int) - (1 : Int))) ((0 : Int), (0 : Int))).fst) ∧ ((List.getD l x ((0 : Int), (0 : Int))).snd - (List.getD l (Int.toNat ((↑x : Int) - (1 : Int))) ((0 : Int), (0 : Int))).snd) * (v - (List.getD l (Int.toNat ((↑x : Int) - (1 : Int))) ((0 : Int), (0 : Int))).fst) ≤ (9223372036854775807 : Int)) ∧ (-9223372036854775808 : Int) ≤ (List.getD l (Int.toNat ((↑x : Int) - (1 : Int))) ((0 : Int), (0 : Int))).snd * ((List.getD l x ((0 : Int), (0 : Int))).fst - (List.getD l (Int.toNat ((↑x : Int) - (1 : Int))) ((0 : Int), (0 : Int))).fst) + ((List.getD l x ((0 : Int), (0 : Int))).snd - (List.getD l (Int.toNat ((↑x : Int) - (1 : Int))) ((0 : Int), (0 : Int))).snd) * (v - (List.getD l (Int.toNat ((↑x : Int) - (1 : Int))) ((0 : Int), (0 : Int))).fst) ∧ (List.getD l (Int.toNat ((↑x : Int) - (1 : Int))) ((0 : Int), (0 : Int))).snd * ((List.getD l x ((0 : Int), (0 : Int))).fst - (List.getD l (Int.toNat ((↑x : Int) - (1 : Int))) ((0 : Int), (0 : Int))).fst) + ((List.getD l x ((0 : Int), (0 : Int))).snd - (List.getD l (Int.toNat ((↑x : Int) - (1 : Int))) ((0 : Int), (0 : Int))).snd) * (v - (List.getD l (Int.toNat ((↑x : Int) - (1 : Int))) ((0 : Int), (0 : Int))).fst) ≤ (9223372036854775807 : Int)) ∧ (List.getD l (Int.toNat ((↑x : Int) - (1 : Int))) ((0 : Int), (0 : Int))).snd * ((List.getD l x ((0 : Int), (0 : Int))).fst - (List.getD l (Int.toNat ((↑x : Int) - (1 : Int))) ((0 : Int), (0 : Int))).fst) + ((List.getD l x ((0 : Int), (0 : Int))).snd - (List.getD l (Int.toNat ((↑x : Int) - (1 : Int))) ((0 : Int), (0 : Int))).snd) * (v - (List.getD l (Int.toNat ((↑x : Int) - (1 : Int))) ((0 : Int), (0 : Int))).fst) = (rAtS l v).fst ∧ (List.getD l x ((0 : Int), (0 : Int))).fst - (List.getD l (Int.toNat ((↑x : Int) - (1 : Int))) ((0 : Int), (0 : Int))).fst = (rAtS l v).snd)) := by
  intros
  kernel_rfl
theorem wp21 (l : List (Int × Int)) (v : Int) : wpF Tryz.prog G48 (ann0 (annRAt l v)) Tryz.f21 cRAt (l, v, ()) := by
  refine (vc21 l v).mpr ?_
  intro hc
  obtain ⟨h0, hh⟩ := checkAt_ok hc
  obtain ⟨ho, hg⟩ := line_ok h0
  have hl := ho.1
  have hl8 := ho.2.1
  refine ⟨(1 : Nat), ⟨rfl, rfl, rfl⟩, ⟨Nat.le_refl _, by omega, hc, rfl⟩, fun (k : Nat) hk => ⟨by omega, fun h => ?_, fun h => ?_⟩⟩
  · have hlt : (l.getD k (0, 0)).1 < v := by simpa using h
    have hne : k + 1 < l.length := by
      rcases Nat.lt_or_ge (k + 1) l.length with h1 | h1
      · exact h1
      · have : k = l.length - 1 := by omega
        rw [this] at hlt; omega
    refine ⟨by omega, (k + 1 : Nat), ⟨rfl, by simp, rfl⟩, ⟨by omega, hne, hc, ?_⟩, by omega⟩
    rw [hk.2.2.2, show l.length + 1 - k = (l.length + 1 - (k + 1)) + 1 by omega, rIdx, if_pos hlt]
  · have hge : ¬ (l.getD k (0, 0)).1 < v := by simpa using h
    have hp : rPiece l v = k := by
      rw [hk.2.2.2, show l.length + 1 - k = (l.length + 1 - (k + 1)) + 1 by omega, rIdx, if_neg hge]
    have ek : ((k : Int) - 1).toNat = k - 1 := by omega
    have a0 := (line_at hg (k := k - 1) (by omega)).1
    have b0 := (line_at hg (k := k) (by omega)).1
    have hv1 := (line_at hg (k := 0) (by omega)).1
    rw [ek]
    simp only [rAtS, hp]
    generalize l.getD (k - 1) (0, 0) = a at *
    generalize l.getD k (0, 0) = b at *
    have m1 := mul_bd (a := a.2) (b := b.1 - a.1) (A := 1000) (B := 1000) ⟨by omega, by omega⟩ ⟨by omega, by omega⟩
    have m2 := mul_bd (a := b.2 - a.2) (b := v - a.1) (A := 2000) (B := 1000) ⟨by omega, by omega⟩ ⟨by omega, by omega⟩
    exact ⟨by omega, by omega, ⟨by omega, by omega, by omega, by omega, by omega⟩, by first | rfl | trivial⟩
theorem ok21 : Ok Tryz.prog 21 cRAt := ok_of_wp mixed g48 (by kernel_rfl) (by kernel_rfl) (fun xx => ann0 (annRAt xx.1 xx.2.1)) fun xx => wp21 xx.1 xx.2.1
abbrev G49 : Gam := (21, cRAt) :: G48
theorem g49 : GamOk Tryz.prog G49 := .cons ok21 g48
def movedGo (by_ : Int) : List (Int × Int) → Option (List (Int × Int))
  | [] => some []
  | p :: r => if withinS (p.2 + by_) (-1000) 1000 ≠ 0 then none else match movedGo by_ r with
    | some m => some ((p.1, p.2 + by_) :: m)
    | none => none
def movedErr (l : List (Int × Int)) (by_ : Int) : Int := firstS [lineS l, withinS by_ (-2000) 2000]
def movedS (l : List (Int × Int)) (by_ : Int) : List (Int × Int) × Int := if movedErr l by_ ≠ 0 then ([], movedErr l by_) else match movedGo by_ l with
  | some m => (m, 0)
  | none => ([], 4)
def cRMoved : Con := { args := [aL 132, aI], ress := [(false, .list 132 sPt), I], owns := [], pre := fun _ => [], spec := fun (l, b, _) => ((movedS l b).1, (movedS l b).2, ()) }
abbrev annRMoved (l : List (Int × Int)) (b : Int) : Ann := { X := Nat, σ := fun k => ⟨2, [(0, .one (.sl 0)), (1, .one (.int .i64 b)), (7, .one (.sl 1)), (8, .one (.int .i64 k))], [(0, .imm 132 sPt l), (1, .own 132 sPt ((l.take k).map fun p => (p.1, p.2 + b)))]⟩, inv := fun k => k ≤ l.length ∧ movedErr l b = 0 ∧ movedGo b l = (movedGo b (l.drop k)).map fun m => ((l.take k).map fun p => (p.1, p.2 + b)) ++ m, mu := fun k => l.length - k }
theorem movedGo_drop {b : Int} {l : List (Int × Int)} {k : Nat} (h : k < l.length) : movedGo b (l.drop k) = if withinS ((l.getD k (0, 0)).2 + b) (-1000) 1000 ≠ 0 then none else (movedGo b (l.drop (k + 1))).map fun m => ((l.getD k (0, 0)).1, (l.getD k (0, 0)).2 + b) :: m := by
  rw [List.drop_eq_getElem_cons h]
  have e1 : l.getD k (0, 0) = l[k] := by simp [List.getD_eq_getElem?_getD, h]
  simp only [movedGo, e1]
  split
  · rfl
  · cases movedGo b (l.drop (k + 1)) <;> rfl
theorem vc23 : ∀ (l : List (Int × Int)) (b : Int), wpF Tryz.prog G49 (ann0 (annRMoved l b)) Tryz.f23 cRMoved (l, b, ()) = ((2 : Nat) ≤ (1000000 : Nat) ∧ ((firstS [lineS l, withinS b (-2000 : Int) (2000 : Int)] != (0 : Int)) = true → [] = (movedS l b).fst ∧ firstS [lineS l, withinS b (-2000 : Int) (2000 : Int)] = (movedS l b).snd) ∧ ((firstS [lineS l, withinS b (-2000 : Int) (2000 : Int)] != (0 : Int)) = false → ∃ (x : Nat), (b = b ∧ (0 : Int) = (↑x : Int) ∧ l = l ∧ List.length (List.map (fun (p : Int × Int) => (p.fst, p.snd + b)) (List.take x l)) = (0 : Nat)) ∧ (x ≤ List.length l ∧ movedErr l b = (0 : Int) ∧ movedGo b l = Option.map (fun (m : List (Int × Int)) => List.map (fun (p : Int × Int) => (p.fst, p.snd + b)) (List.take x l) ++ m) (movedGo b (List.drop x l))) ∧ ∀ (x : Nat), x ≤ List.length l ∧ movedErr l b = (0 : Int) ∧ movedGo b l = Option.map (fun (m : List (Int × Int)) => List.map (fun (p : Int × Int) => (p.fst, p.snd + b)) (List.take x l) ++ m) (movedGo b (List.drop x l)) → (decide ((↑x : Int) < (↑(List.length l) : Int)) = true → (((0 : Int) ≤ (↑x : Int) ∧ (↑x : Int) < (↑(List.length l) : Int)) ∧ ((0 : Int) ≤ (↑x : Int) ∧ (↑x : Int) < (↑(List.length l) : Int)) ∧ (-9223372036854775808 : Int) ≤ (List.getD l x ((0 : Int), (0 : Int))).snd + b ∧ (List.getD l x ((0 : Int), (0 : Int))).snd + b ≤ (9223372036854775807 : Int)) ∧ ((withinS ((List.getD l x ((0 : Int), (0 : Int))).snd + b) (-1000 : Int) (1000 : Int) != (0 : Int)) = true → [] = (movedS l b).fst ∧ (4 : Int) = (movedS l b).snd) ∧ ((withinS ((List.getD l x ((0 : Int), (0 : Int))).snd + b) (-1000 : Int) (1000 : Int) != (0 : Int)) = false → (((0 : Int) ≤ (↑x : Int) ∧ (↑x : Int) < (↑(List.length l) : Int)) ∧ ((0 : Int) ≤ (↑x : Int) ∧ (↑x : Int) < (↑(List.length l) : Int)) ∧ ((0 : Int) ≤ (↑x : Int) ∧ (↑x : Int) < (↑(List.length l) : Int)) ∧ ((0 : Int) ≤ (↑x : Int) ∧ (↑x : Int) < (↑(List.length l) : Int)) ∧ ((-9223372036854775808 : Int) ≤ (List.getD l x ((0 : Int), (0 : Int))).snd + b ∧ (List.getD l x ((0 : Int), (0 : Int))).snd + b ≤ (9223372036854775807 : Int)) ∧ (List.length (List.map (fun (p : Int × Int) => (p.fst, p.snd + b)) (List.take x l)) + (1 : Nat)) * (16 : Nat) ≤ (140737488355328 : Nat)) ∧ ((-9223372036854775808 : Int) ≤ (↑x : Int) + (1 : Int) ∧ (↑x : Int) + (1 : Int) ≤ (9223372036854775807 : Int)) ∧ ∃ (y : Nat), (b = b ∧ (↑x : Int) + (1 : Int) = (↑y : Int) ∧ l = l ∧ List.map (fun (p : Int × Int) => (p.fst, p.snd + b)) (List.take x l) ++ [((List.getD l x ((0 : Int), (0 : Int))).fst, (List.getD l x ((0 : Int), (0 : Int))).snd + b)] = List.map (fun (p : Int × Int) => (p.fst, p.snd + b)) (List.take y l)) ∧ (y ≤ List.length l ∧ movedErr l b = (0 : Int) ∧ movedGo b l = Option.map (fun (m : List (Int × Int)) => List.map (fun (p : Int × Int) => (p.fst, p.snd + b)) (List.take y l) ++ m) (movedGo b (List.drop y l))) ∧ List.length l - y < List.length l - x)) ∧ (decide ((↑x : Int) < (↑(List.length l) : Int)) = false → List.map (fun (p : Int × Int) => (p.fst, p.snd + b)) (List.take x l) = (movedS l b).fst ∧ (0 : Int) = (movedS l b).snd))) := by
  intros
  kernel_rfl
theorem wp23 (l : List (Int × Int)) (b : Int) : wpF Tryz.prog G49 (ann0 (annRMoved l b)) Tryz.f23 cRMoved (l, b, ()) := by
  refine (vc23 l b).mpr ?_
  have hM : firstS [lineS l, withinS b (-2000) 2000] = movedErr l b := rfl
  rw [hM]
  refine ⟨by omega, fun h => ?_, fun h => ?_⟩
  · have h0 : movedErr l b ≠ 0 := by simpa using h
    simp [movedS, h0]
  · have h0 : movedErr l b = 0 := by simpa using h
    have h0' := h0
    simp only [movedErr, firstS_zero] at h0'
    obtain ⟨ho, hg⟩ := line_ok h0'.1
    have hb := withinS_zero h0'.2.1
    have hl := ho.1
    have hl8 := ho.2.1
    refine ⟨(0 : Nat), ⟨by simp, by simp, by simp, by simp⟩, ⟨Nat.zero_le _, h0, by simp⟩, fun (k : Nat) hk => ⟨fun h => ?_, fun h => ?_⟩⟩
    · have hlt : k < l.length := by simpa using h
      have a0 := (line_at hg hlt).1
      have hd := movedGo_drop (b := b) hlt
      refine ⟨by omega, fun h1 => ?_, fun h1 => ⟨⟨by omega, by omega, by omega, by omega, by omega, by simp only [List.length_map, List.length_take]; omega⟩, by omega, (k + 1 : Nat), ⟨by simp, by simp, by simp, ?_⟩, ⟨by omega, h0, ?_⟩, by omega⟩⟩
      · have h1' : withinS ((l.getD k (0, 0)).2 + b) (-1000) 1000 ≠ 0 := by simpa using h1
        rw [if_pos h1'] at hd
        have : movedGo b l = none := by rw [hk.2.2, hd]; rfl
        simp [movedS, h0, this]
      · rw [← take_snoc (d := (0, 0)) hlt, List.map_append]; rfl
      · have h1' : ¬ withinS ((l.getD k (0, 0)).2 + b) (-1000) 1000 ≠ 0 := by simpa using h1
        rw [if_neg h1'] at hd
        rw [hk.2.2, hd, ← take_snoc (d := (0, 0)) hlt, List.map_append]
        cases movedGo b (l.drop (k + 1)) <;> simp
    · have hlt : ¬ k < l.length := by simpa using h
      have e : k = l.length := by omega
      have h2 := hk.2.2
      rw [e, List.drop_length, List.take_length] at h2
      have h3 : movedGo b l = some (l.map fun p => (p.1, p.2 + b)) := by rw [h2]; simp [movedGo]
      rw [e, List.take_length]
      simp [movedS, h0, h3]
theorem ok23 : Ok Tryz.prog 23 cRMoved := ok_of_wp mixed g49 (by kernel_rfl) (by kernel_rfl) (fun xx => ann0 (annRMoved xx.1 xx.2.1)) fun xx => wp23 xx.1 xx.2.1
abbrev G50 : Gam := (23, cRMoved) :: G49
theorem g50 : GamOk Tryz.prog G50 := .cons ok23 g49
end Go.Proofs.YtacaadhlobbemaaGreatDoor
namespace Go.Proofs.YtacaadhlobbemaaGreatDoor
open Go.Sx
def rNeededGo (x : Int × Int × Int) (p n : Int) : Nat → Option Int
  | 0 => none
  | f + 1 => if p ≤ (deliveredS x n).1 then some n else rNeededGo x p (n + 1) f
def rNeededS (x : Int × Int × Int) (p : Int) : Option Int := rNeededGo x p 0 1001
def cRNeeded : Con := { args := [a3, aI], ress := [I, Bo], owns := [], pre := fun (x, p, _) => [lossOk x p], spec := fun (x, p, _) => ((rNeededS x p).getD 0, (rNeededS x p).isSome, ()) }
abbrev annRNeeded (x : Int × Int × Int) (p : Int) : Ann := { X := Int, σ := fun n => ⟨1, [(2, .one (.ptr 0 0)), (1, .one (.int .i64 p)), (6, .one (.int .i64 n))], [(0, .box 64 [.int .i64 x.1, .int .i64 x.2.1, .int .i64 x.2.2])]⟩, inv := fun n => 0 ≤ n ∧ n ≤ 1001 ∧ lossOk x p ∧ rNeededS x p = rNeededGo x p n (1001 - n).toNat, mu := fun n => (1001 - n).toNat }
theorem rNeededGo_step {x : Int × Int × Int} {p n : Int} (h : n ≤ 1000) : rNeededGo x p n (1001 - n).toNat = if p ≤ (deliveredS x n).1 then some n else rNeededGo x p (n + 1) (1001 - (n + 1)).toNat := by
  rw [show (1001 - n).toNat = (1001 - (n + 1)).toNat + 1 by omega]
  rfl
theorem vc47 : ∀ (x : Int × Int × Int) (p : Int), wpF Tryz.prog G50 (ann0 (annRNeeded x p)) Tryz.f47 cRNeeded (x, p, ()) = (lossOk x p → ∃ (x_1 : Int), (p = p ∧ (0 : Int) = x_1 ∧ x.fst = x.fst ∧ x.snd.fst = x.snd.fst ∧ x.snd.snd = x.snd.snd) ∧ ((0 : Int) ≤ x_1 ∧ x_1 ≤ (1001 : Int) ∧ lossOk x p ∧ rNeededS x p = rNeededGo x p x_1 (Int.toNat ((1001 : Int) - x_1))) ∧ ∀ (x_2 : Int), (0 : Int) ≤ x_2 ∧ x_2 ≤ (1001 : Int) ∧ lossOk x p ∧ rNeededS x p = rNeededGo x p x_2 (Int.toNat ((1001 : Int) - x_2)) → (decide (x_2 ≤ (1000 : Int)) = true → lossOk (x.fst, x.snd.fst, x.snd.snd) x_2 ∧ (decide (p ≤ (deliveredS (x.fst, x.snd.fst, x.snd.snd) x_2).fst) = true → x_2 = Option.getD (rNeededS x p) (0 : Int) ∧ true = Option.isSome (rNeededS x p)) ∧ (decide (p ≤ (deliveredS (x.fst, x.snd.fst, x.snd.snd) x_2).fst) = false → ((-9223372036854775808 : Int) ≤ x_2 + (1 : Int) ∧ x_2 + (1 : Int) ≤ (9223372036854775807 : Int)) ∧ ∃ (y : Int), (p = p ∧ x_2 + (1 : Int) = y ∧ x.fst = x.fst ∧ x.snd.fst = x.snd.fst ∧ x.snd.snd = x.snd.snd) ∧ ((0 : Int) ≤ y ∧ y ≤ (1001 : Int) ∧ lossOk x p ∧ rNeededS x p = rNeededGo x p y (Int.toNat ((1001 : Int) - y))) ∧ Int.toNat ((1001 : Int) - y) < Int.toNat ((1001 : Int) - x_2))) ∧ (decide (x_2 ≤ (1000 : Int)) = false → (0 : Int) = Option.getD (rNeededS x p) (0 : Int) ∧ false = Option.isSome (rNeededS x p))) := by
  intros
  kernel_rfl
theorem wp47 (x : Int × Int × Int) (p : Int) : wpF Tryz.prog G50 (ann0 (annRNeeded x p)) Tryz.f47 cRNeeded (x, p, ()) := by
  refine (vc47 x p).mpr ?_
  intro hok
  have h4 := hok.2.2.2
  refine ⟨0, by simp, ⟨Int.le_refl _, by omega, hok, rfl⟩, fun n hn => ⟨fun h => ?_, fun h => ?_⟩⟩
  · have hle : n ≤ 1000 := by simpa using h
    obtain ⟨n1, n2, n3, n5⟩ := hn
    have hs := rNeededGo_step (x := x) (p := p) hle
    refine ⟨⟨n3.1, n3.2.1, n3.2.2.1, n1, hle⟩, fun h1 => ?_, fun h1 => ⟨by omega, n + 1, by simp, ⟨by omega, by omega, n3, ?_⟩, by omega⟩⟩
    · have h1' : p ≤ (deliveredS x n).1 := by simpa using h1
      rw [n5, hs, if_pos h1']
      exact ⟨rfl, rfl⟩
    · have h1' : ¬ p ≤ (deliveredS x n).1 := by
        have : ¬ p ≤ (deliveredS (x.1, x.2.1, x.2.2) n).1 := by simpa using h1
        exact this
      rw [n5, hs, if_neg h1']
  · have hle : ¬ n ≤ 1000 := by simpa using h
    obtain ⟨n1, n2, n3, n5⟩ := hn
    have : (1001 - n).toNat = 0 := by omega
    rw [n5, this]
    exact ⟨rfl, rfl⟩
theorem ok47 : Ok Tryz.prog 47 cRNeeded := ok_of_wp mixed g50 (by kernel_rfl) (by kernel_rfl) (fun xx => ann0 (annRNeeded xx.1 xx.2.1)) fun xx => wp47 xx.1 xx.2.1
abbrev G51 : Gam := (47, cRNeeded) :: G50
theorem g51 : GamOk Tryz.prog G51 := .cons ok47 g50
def powersS (x : Int × Int × Int) (l : List Int) : Int := if lossesS x ≠ 0 then lossesS x else if 256 < l.length then 5 else firstS (l.map fun n => withinS n 0 1000)
def cCheckPowers : Con := { args := [a3, .val false (.list 3 sI)], ress := [I], owns := [], pre := fun _ => [], spec := fun (x, l, _) => (powersS x l, ()) }
abbrev annPowers (x : Int × Int × Int) (l : List Int) : Ann := { X := Nat, σ := fun k => ⟨1, [(1, .one (.sl 0)), (6, .one (.int .i64 k))], [(0, .imm 3 sI l)]⟩, inv := fun k => k ≤ l.length ∧ l.length ≤ 256 ∧ lossesS x = 0 ∧ firstS (l.map fun n => withinS n 0 1000) = firstS ((l.drop k).map fun n => withinS n 0 1000), mu := fun k => l.length - k }
theorem vc48 : ∀ (x : Int × Int × Int) (l : List Int), wpF Tryz.prog G51 (ann0 (annPowers x l)) Tryz.f48 cCheckPowers (x, l, ()) = (((lossesS (x.fst, x.snd.fst, x.snd.snd) != (0 : Int)) = true → lossesS (x.fst, x.snd.fst, x.snd.snd) = powersS x l) ∧ ((lossesS (x.fst, x.snd.fst, x.snd.snd) != (0 : Int)) = false → (decide ((256 : Int) < (↑(List.length l) : Int)) = true → (5 : Int) = powersS x l) ∧ (decide ((256 : Int) < (↑(List.length l) : Int)) = false → ∃ (x_1 : Nat), ((0 : Int) = (↑x_1 : Int) ∧ l = l) ∧ (x_1 ≤ List.length l ∧ List.length l ≤ (256 : Nat) ∧ lossesS x = (0 : Int) ∧ firstS (List.map (fun (n : Int) => withinS n (0 : Int) (1000 : Int)) l) = firstS (List.map (fun (n : Int) => withinS n (0 : Int) (1000 : Int)) (List.drop x_1 l))) ∧ ∀ (x_2 : Nat), x_2 ≤ List.length l ∧ List.length l ≤ (256 : Nat) ∧ lossesS x = (0 : Int) ∧ firstS (List.map (fun (n : Int) => withinS n (0 : Int) (1000 : Int)) l) = firstS (List.map (fun (n : Int) => withinS n (0 : Int) (1000 : Int)) (List.drop x_2 l)) → (decide ((↑x_2 : Int) < (↑(List.length l) : Int)) = true → (((0 : Int) ≤ (↑x_2 : Int) ∧ (↑x_2 : Int) < (↑(List.length l) : Int)) ∧ (0 : Int) ≤ (↑x_2 : Int) ∧ (↑x_2 : Int) < (↑(List.length l) : Int)) ∧ ((withinS (List.getD l x_2 (0 : Int)) (0 : Int) (1000 : Int) != (0 : Int)) = true → withinS (List.getD l x_2 (0 : Int)) (0 : Int) (1000 : Int) = powersS x l) ∧ ((withinS (List.getD l x_2 (0 : Int)) (0 : Int) (1000 : Int) != (0 : Int)) = false → ((-9223372036854775808 : Int) ≤ (↑x_2 : Int) + (1 : Int) ∧ (↑x_2 : Int) + (1 : Int) ≤ (9223372036854775807 : Int)) ∧ ∃ (y : Nat), ((↑x_2 : Int) + (1 : Int) = (↑y : Int) ∧ l = l) ∧ (y ≤ List.length l ∧ List.length l ≤ (256 : Nat) ∧ lossesS x = (0 : Int) ∧ firstS (List.map (fun (n : Int) => withinS n (0 : Int) (1000 : Int)) l) = firstS (List.map (fun (n : Int) => withinS n (0 : Int) (1000 : Int)) (List.drop y l))) ∧ List.length l - y < List.length l - x_2)) ∧ (decide ((↑x_2 : Int) < (↑(List.length l) : Int)) = false → (0 : Int) = powersS x l)))) := by
  intros
  kernel_rfl
theorem wp48 (x : Int × Int × Int) (l : List Int) : wpF Tryz.prog G51 (ann0 (annPowers x l)) Tryz.f48 cCheckPowers (x, l, ()) := by
  refine (vc48 x l).mpr ?_
  have hE : lossesS (x.1, x.2.1, x.2.2) = lossesS x := rfl
  rw [hE]
  refine ⟨fun h => ?_, fun h => ⟨fun h1 => ?_, fun h1 => ?_⟩⟩
  · have h0 : lossesS x ≠ 0 := by simpa using h
    simp [powersS, h0]
  · have h0 : lossesS x = 0 := by simpa using h
    have h2 : 256 < l.length := by have : 256 < (l.length : Int) := by simpa using h1
                                   omega
    simp [powersS, h0, h2]
  · have h0 : lossesS x = 0 := by simpa using h
    have h2 : ¬ 256 < l.length := by have : ¬ 256 < (l.length : Int) := by simpa using h1
                                     omega
    have hp : powersS x l = firstS (l.map fun n => withinS n 0 1000) := by simp [powersS, h0, h2]
    rw [hp]
    refine ⟨(0 : Nat), by simp, ⟨Nat.zero_le _, by omega, h0, rfl⟩, fun (k : Nat) hk => ⟨fun h => ?_, fun h => ?_⟩⟩
    · have hlt : k < l.length := by simpa using h
      have hd : firstS ((l.drop k).map fun n => withinS n 0 1000) = if withinS (l.getD k 0) 0 1000 = 0 then firstS ((l.drop (k + 1)).map fun n => withinS n 0 1000) else withinS (l.getD k 0) 0 1000 := by
        have e1 : l.getD k 0 = l[k] := by simp [List.getD_eq_getElem?_getD, hlt]
        rw [List.drop_eq_getElem_cons hlt, List.map_cons, e1]
        rfl
      refine ⟨by omega, fun h3 => ?_, fun h3 => ⟨by omega, (k + 1 : Nat), by simp, ⟨by omega, by omega, h0, ?_⟩, by omega⟩⟩
      · have h3' : ¬ withinS (l.getD k 0) 0 1000 = 0 := by simpa using h3
        rw [hk.2.2.2, hd, if_neg h3']
      · have h3' : withinS (l.getD k 0) 0 1000 = 0 := by simpa using h3
        rw [hk.2.2.2, hd, if_pos h3']
    · have hlt : ¬ k < l.length := by simpa using h
      have e : k = l.length := by omega
      rw [hk.2.2.2, e, List.drop_length]; rfl
theorem ok48 : Ok Tryz.prog 48 cCheckPowers := ok_of_wp mixed g51 (by kernel_rfl) (by kernel_rfl) (fun xx => ann0 (annPowers xx.1 xx.2.1)) fun xx => wp48 xx.1 xx.2.1
abbrev G52 : Gam := (48, cCheckPowers) :: G51
theorem g52 : GamOk Tryz.prog G52 := .cons ok48 g51
abbrev annMap (T U : TypeId) (s : Sch) (l : List s.T) (r : Bool × Sch) (g : Bool) (q : Tup [(g, s)] → List Prop) (f : Tup [(g, s)] → r.2.T) : Ann := { X := Nat, σ := fun k => ⟨3, [(1, .one (.fv 1)), (5, .one (.sl 2)), (8, .one (.sl 0)), (9, .one (.int .i64 l.length)), (10, .one (.int .i64 k))], [(0, .imm T s l), (1, .afn [(g, s)] r q f), (2, .own U r.2 ((l.take k).map fun x => f (x, ())))]⟩, inv := fun k => k ≤ l.length, mu := fun k => l.length - k }
def cMapInts : Con := { args := [.val false (.list 3 sI), .fn [I] I], ress := [(false, .list 26 sI)], owns := [true], pre := fun (l, (q, _), _) => [l.length ≤ 1000000, ∀ x ∈ l, conj (q (x, ()))], spec := fun (l, (_, f), _) => (l.map fun x => f (x, ()), ()) }
theorem vc122 : ∀ (l : List Int) (q : Int × Unit → List Prop) (f : Int × Unit → Int), wpF Tryz.prog G52 (ann0 (annMap (3 : TypeId) (26 : TypeId) sI l I false q f)) Tryz.f122 cMapInts (l, (q, f), ()) = (List.length l ≤ (1000000 : Nat) → (∀ (x : Int), x ∈ l → conj (q (x, PUnit.unit))) → ∃ (x : Nat), ((↑(List.length l) : Int) = (↑(List.length l) : Int) ∧ (0 : Int) = (↑x : Int) ∧ l = l ∧ (fun (x : Int × PUnit) => q x) = q ∧ (fun (x : Int × PUnit) => f x) = f ∧ List.length (List.map (fun (x : Int) => f (x, PUnit.unit)) (List.take x l)) = (0 : Nat)) ∧ x ≤ List.length l ∧ ∀ (x : Nat), x ≤ List.length l → (decide ((↑x : Int) < (↑(List.length l) : Int)) = true → (((0 : Int) ≤ (↑x : Int) ∧ (↑x : Int) < (↑(List.length l) : Int)) ∧ (0 : Int) ≤ (↑x : Int) ∧ (↑x : Int) < (↑(List.length l) : Int)) ∧ (conj (q (List.getD l x (0 : Int), PUnit.unit)) ∧ (List.length (List.map (fun (x : Int) => f (x, PUnit.unit)) (List.take x l)) + (1 : Nat)) * (8 : Nat) ≤ (140737488355328 : Nat)) ∧ ((-9223372036854775808 : Int) ≤ (↑x : Int) + (1 : Int) ∧ (↑x : Int) + (1 : Int) ≤ (9223372036854775807 : Int)) ∧ ∃ (y : Nat), ((↑(List.length l) : Int) = (↑(List.length l) : Int) ∧ (↑x : Int) + (1 : Int) = (↑y : Int) ∧ l = l ∧ (fun (x : Int × PUnit) => q x) = q ∧ (fun (x : Int × PUnit) => f x) = f ∧ List.map (fun (x : Int) => f (x, PUnit.unit)) (List.take x l) ++ [f (List.getD l x (0 : Int), PUnit.unit)] = List.map (fun (x : Int) => f (x, PUnit.unit)) (List.take y l)) ∧ y ≤ List.length l ∧ List.length l - y < List.length l - x) ∧ (decide ((↑x : Int) < (↑(List.length l) : Int)) = false → List.map (fun (x : Int) => f (x, PUnit.unit)) (List.take x l) = List.map (fun (x : Int) => f (x, PUnit.unit)) l)) := by
  intros
  kernel_rfl
theorem wp122 (l : List Int) (q : Int × Unit → List Prop) (f : Int × Unit → Int) : wpF Tryz.prog G52 (ann0 (annMap 3 26 sI l I false q f)) Tryz.f122 cMapInts (l, (q, f), ()) := by
  refine (vc122 l q f).mpr ?_
  intro hb hq
  refine ⟨(0 : Nat), ⟨rfl, rfl, rfl, rfl, rfl, by simp⟩, Nat.zero_le _, fun (k : Nat) hk => ⟨fun h => ?_, fun h => ?_⟩⟩
  · have hlt : k < l.length := by simpa using h
    refine ⟨by omega, ⟨hq _ (getD_mem hlt), by simp only [List.length_map, List.length_take]; omega⟩, by omega, (k + 1 : Nat), ⟨rfl, by simp, rfl, rfl, rfl, ?_⟩, by omega, by omega⟩
    rw [← take_snoc (d := 0) hlt, List.map_append]; rfl
  · have hlt : ¬ k < l.length := by simpa using h
    rw [List.take_of_length_le (by omega)]
theorem ok122 : Ok Tryz.prog 122 cMapInts := ok_of_wp mixed g52 (by kernel_rfl) (by kernel_rfl) (fun xx => ann0 (annMap 3 26 sI xx.1 I false xx.2.1.1 xx.2.1.2)) fun xx => wp122 xx.1 xx.2.1.1 xx.2.1.2
abbrev G53 : Gam := (122, cMapInts) :: G52
theorem g53 : GamOk Tryz.prog G53 := .cons ok122 g52
def cBal1 : Con := { args := [aI], ress := [I], owns := [], pre := fun _ => [], spec := fun (n, _) => (withinS n 0 1000, ()) }
theorem vc123 : ∀ (n : Int), wpF Tryz.prog G53 (na ()) Tryz.f123 cBal1 (n, ()) = (withinS n (0 : Int) (1000 : Int) = withinS n (0 : Int) (1000 : Int)) := by
  intros
  kernel_rfl
theorem wp123 (n : Int) : wpF Tryz.prog G53 (na ()) Tryz.f123 cBal1 (n, ()) := by
  refine (vc123 n).mpr ?_
  rfl
theorem ok123 : Ok Tryz.prog 123 cBal1 := ok_of_wp mixed g53 (by kernel_rfl) (by kernel_rfl) na fun xx => wp123 xx.1
abbrev G54 : Gam := (123, cBal1) :: G53
theorem g54 : GamOk Tryz.prog G54 := .cons ok123 g53
def cMapLineE : Con := { args := [.val false (.list 30 (.list 176 sPt)), .fn [(false, .list 176 sPt)] I], ress := [(false, .list 26 sI)], owns := [true], pre := fun (l, (q, _), _) => [l.length ≤ 1000000, ∀ x ∈ l, conj (q (x, ()))], spec := fun (l, (_, f), _) => (l.map fun x => f (x, ()), ()) }
theorem vc117 : ∀ (l : List (List (Int × Int))) (q : List (Int × Int) × Unit → List Prop) (f : List (Int × Int) × Unit → Int), wpF Tryz.prog G54 (ann0 (annMap (30 : TypeId) (26 : TypeId) (Sch.list (176 : TypeId) sPt) l I false q f)) Tryz.f117 cMapLineE (l, (q, f), ()) = (List.length l ≤ (1000000 : Nat) → (∀ (x : List (Int × Int)), x ∈ l → conj (q (x, PUnit.unit))) → ∃ (x : Nat), ((↑(List.length l) : Int) = (↑(List.length l) : Int) ∧ (0 : Int) = (↑x : Int) ∧ l = l ∧ (fun (x : List (Int × Int) × PUnit) => q x) = q ∧ (fun (x : List (Int × Int) × PUnit) => f x) = f ∧ List.length (List.map (fun (x : List (Int × Int)) => f (x, PUnit.unit)) (List.take x l)) = (0 : Nat)) ∧ x ≤ List.length l ∧ ∀ (x : Nat), x ≤ List.length l → (decide ((↑x : Int) < (↑(List.length l) : Int)) = true → (((0 : Int) ≤ (↑x : Int) ∧ (↑x : Int) < (↑(List.length l) : Int)) ∧ (0 : Int) ≤ (↑x : Int) ∧ (↑x : Int) < (↑(List.length l) : Int)) ∧ (conj (q (List.getD l x [], PUnit.unit)) ∧ (List.length (List.map (fun (x : List (Int × Int)) => f (x, PUnit.unit)) (List.take x l)) + (1 : Nat)) * (8 : Nat) ≤ (140737488355328 : Nat)) ∧ ((-9223372036854775808 : Int) ≤ (↑x : Int) + (1 : Int) ∧ (↑x : Int) + (1 : Int) ≤ (9223372036854775807 : Int)) ∧ ∃ (y : Nat), ((↑(List.length l) : Int) = (↑(List.length l) : Int) ∧ (↑x : Int) + (1 : Int) = (↑y : Int) ∧ l = l ∧ (fun (x : List (Int × Int) × PUnit) => q x) = q ∧ (fun (x : List (Int × Int) × PUnit) => f x) = f ∧ List.map (fun (x : List (Int × Int)) => f (x, PUnit.unit)) (List.take x l) ++ [f (List.getD l x [], PUnit.unit)] = List.map (fun (x : List (Int × Int)) => f (x, PUnit.unit)) (List.take y l)) ∧ y ≤ List.length l ∧ List.length l - y < List.length l - x) ∧ (decide ((↑x : Int) < (↑(List.length l) : Int)) = false → List.map (fun (x : List (Int × Int)) => f (x, PUnit.unit)) (List.take x l) = List.map (fun (x : List (Int × Int)) => f (x, PUnit.unit)) l)) := by
  intros
  kernel_rfl
theorem wp117 (l : List (List (Int × Int))) (q : List (Int × Int) × Unit → List Prop) (f : List (Int × Int) × Unit → Int) : wpF Tryz.prog G54 (ann0 (annMap 30 26 (.list 176 sPt) l I false q f)) Tryz.f117 cMapLineE (l, (q, f), ()) := by
  refine (vc117 l q f).mpr ?_
  intro hb hq
  refine ⟨(0 : Nat), ⟨rfl, rfl, rfl, rfl, rfl, by simp⟩, Nat.zero_le _, fun (k : Nat) hk => ⟨fun h => ?_, fun h => ?_⟩⟩
  · have hlt : k < l.length := by simpa using h
    refine ⟨by omega, ⟨hq (l.getD k []) (getD_mem hlt), by simp only [List.length_map, List.length_take]; omega⟩, by omega, (k + 1 : Nat), ⟨rfl, by simp, rfl, rfl, rfl, ?_⟩, by omega, by omega⟩
    rw [← take_snoc (d := []) hlt, List.map_append]; rfl
  · have hlt : ¬ k < l.length := by simpa using h
    rw [List.take_of_length_le (by omega)]
theorem ok117 : Ok Tryz.prog 117 cMapLineE := ok_of_wp mixed g54 (by kernel_rfl) (by kernel_rfl) (fun xx => ann0 (annMap 30 26 (.list 176 sPt) xx.1 I false xx.2.1.1 xx.2.1.2)) fun xx => wp117 xx.1 xx.2.1.1 xx.2.1.2
abbrev G55 : Gam := (117, cMapLineE) :: G54
theorem g55 : GamOk Tryz.prog G55 := .cons ok117 g54
end Go.Proofs.YtacaadhlobbemaaGreatDoor
namespace Go.Proofs.YtacaadhlobbemaaGreatDoor
open Go.Sx
def rulesS (x : Int × Int × Int) : Int := firstS [withinS x.1 1 1000, withinS x.2.1 (-1000) 1000, withinS x.2.2 (-1000) 1000, bif decide (x.2.2 < x.2.1) then 11 else 0]
def cRules : Con := { args := [a3], ress := [I], owns := [], pre := fun _ => [], spec := fun (x, _) => (rulesS x, ()) }
theorem vc67 : ∀ (x : Int × Int × Int), wpF Tryz.prog G55 (na ()) Tryz.f67 cRules (x, ()) = ((4 : Nat) ≤ (1000000 : Nat) ∧ firstS [withinS x.fst (1 : Int) (1000 : Int), withinS x.snd.fst (-1000 : Int) (1000 : Int), withinS x.snd.snd (-1000 : Int) (1000 : Int), bif decide (x.snd.snd < x.snd.fst) then (11 : Int) else (0 : Int)] = rulesS x) := by
  intros
  kernel_rfl
theorem wp67 (x : Int × Int × Int) : wpF Tryz.prog G55 (na ()) Tryz.f67 cRules (x, ()) := by
  refine (vc67 x).mpr ?_
  exact ⟨by omega, rfl⟩
theorem ok67 : Ok Tryz.prog 67 cRules := ok_of_wp mixed g55 (by kernel_rfl) (by kernel_rfl) na fun xx => wp67 xx.1
abbrev G56 : Gam := (67, cRules) :: G55
theorem g56 : GamOk Tryz.prog G56 := .cons ok67 g55
theorem firstS_snoc : ∀ {l : List Int} {x : Int}, firstS (l ++ [x]) = if firstS l = 0 then x else firstS l
  | [], x => by by_cases h : x = 0 <;> simp [firstS, h]
  | y :: l, x => by
    by_cases h : y = 0
    · simp only [List.cons_append, firstS, if_pos h]; exact firstS_snoc
    · simp [firstS, h]
theorem last_check {l : List Int} {c : Bool} {e : Int} (h : e = firstS (l ++ [bif c then 11 else 0])) : ((firstS l != 0) = true → firstS l = e) ∧ ((firstS l != 0) = false → (c = true → 11 = e) ∧ (c = false → 0 = e)) := by
  rw [firstS_snoc] at h
  refine ⟨fun h1 => ?_, fun h1 => ?_⟩
  · have h1' : ¬ firstS l = 0 := by simpa using h1
    rw [h, if_neg h1']
  · have h1' : firstS l = 0 := by simpa using h1
    rw [if_pos h1'] at h
    exact ⟨fun hc => by rw [h, hc]; rfl, fun hc => by rw [h, hc]; rfl⟩
theorem vc68 : ∀ (x : Int × Int × Int), wpF Tryz.prog G56 (na ()) Tryz.f68 cRules (x, ()) = ((3 : Nat) ≤ (1000000 : Nat) ∧ ((firstS [withinS x.fst (1 : Int) (1000 : Int), withinS x.snd.fst (-1000 : Int) (1000 : Int), withinS x.snd.snd (-1000 : Int) (1000 : Int)] != (0 : Int)) = true → firstS [withinS x.fst (1 : Int) (1000 : Int), withinS x.snd.fst (-1000 : Int) (1000 : Int), withinS x.snd.snd (-1000 : Int) (1000 : Int)] = rulesS x) ∧ ((firstS [withinS x.fst (1 : Int) (1000 : Int), withinS x.snd.fst (-1000 : Int) (1000 : Int), withinS x.snd.snd (-1000 : Int) (1000 : Int)] != (0 : Int)) = false → (decide (x.snd.snd < x.snd.fst) = true → (11 : Int) = rulesS x) ∧ (decide (x.snd.snd < x.snd.fst) = false → (0 : Int) = rulesS x))) := by
  intros
  kernel_rfl
theorem wp68 (x : Int × Int × Int) : wpF Tryz.prog G56 (na ()) Tryz.f68 cRules (x, ()) := by
  refine (vc68 x).mpr ?_
  exact ⟨by omega, last_check rfl⟩
theorem ok68 : Ok Tryz.prog 68 cRules := ok_of_wp mixed g56 (by kernel_rfl) (by kernel_rfl) na fun xx => wp68 xx.1
abbrev G57 : Gam := (68, cRules) :: G56
theorem g57 : GamOk Tryz.prog G57 := .cons ok68 g56
def supportS (x : Int × Int × Int) : Int := firstS [withinS x.1 0 10000, withinS x.2.1 0 1000, withinS x.2.2 0 1000]
def cSupport : Con := { args := [a3], ress := [I], owns := [], pre := fun _ => [], spec := fun (x, _) => (supportS x, ()) }
theorem vc86 : ∀ (x : Int × Int × Int), wpF Tryz.prog G57 (na ()) Tryz.f86 cSupport (x, ()) = ((3 : Nat) ≤ (1000000 : Nat) ∧ firstS [withinS x.fst (0 : Int) (10000 : Int), withinS x.snd.fst (0 : Int) (1000 : Int), withinS x.snd.snd (0 : Int) (1000 : Int)] = supportS x) := by
  intros
  kernel_rfl
theorem wp86 (x : Int × Int × Int) : wpF Tryz.prog G57 (na ()) Tryz.f86 cSupport (x, ()) := by
  refine (vc86 x).mpr ?_
  exact ⟨by omega, rfl⟩
theorem ok86 : Ok Tryz.prog 86 cSupport := ok_of_wp mixed g57 (by kernel_rfl) (by kernel_rfl) na fun xx => wp86 xx.1
abbrev G58 : Gam := (86, cSupport) :: G57
theorem g58 : GamOk Tryz.prog G58 := .cons ok86 g57
theorem vc87 : ∀ (x : Int × Int × Int), wpF Tryz.prog G58 (na ()) Tryz.f87 cSupport (x, ()) = ((3 : Nat) ≤ (1000000 : Nat) ∧ firstS [withinS x.fst (0 : Int) (10000 : Int), withinS x.snd.fst (0 : Int) (1000 : Int), withinS x.snd.snd (0 : Int) (1000 : Int)] = supportS x) := by
  intros
  kernel_rfl
theorem wp87 (x : Int × Int × Int) : wpF Tryz.prog G58 (na ()) Tryz.f87 cSupport (x, ()) := by
  refine (vc87 x).mpr ?_
  exact ⟨by omega, rfl⟩
theorem ok87 : Ok Tryz.prog 87 cSupport := ok_of_wp mixed g58 (by kernel_rfl) (by kernel_rfl) na fun xx => wp87 xx.1
abbrev G59 : Gam := (87, cSupport) :: G58
theorem g59 : GamOk Tryz.prog G59 := .cons ok87 g58
abbrev s4 : Sch := .prod sI (.prod sI (.prod sI sI))
def tripS (x : Int × Int × Int × Int) : Int := firstS [withinS x.1 0 10000, withinS x.2.1 0 10000, withinS x.2.2.1 1 10000, withinS x.2.2.2 1 10000, bif decide (x.2.1 < x.1) then 11 else 0]
def cTrip : Con := { args := [.val true s4], ress := [I], owns := [], pre := fun _ => [], spec := fun (x, _) => (tripS x, ()) }
theorem vc72 : ∀ (x : Int × Int × Int × Int), wpF Tryz.prog G59 (na ()) Tryz.f72 cTrip (x, ()) = ((5 : Nat) ≤ (1000000 : Nat) ∧ firstS [withinS x.fst (0 : Int) (10000 : Int), withinS x.snd.fst (0 : Int) (10000 : Int), withinS x.snd.snd.fst (1 : Int) (10000 : Int), withinS x.snd.snd.snd (1 : Int) (10000 : Int), bif decide (x.snd.fst < x.fst) then (11 : Int) else (0 : Int)] = tripS x) := by
  intros
  kernel_rfl
theorem wp72 (x : Int × Int × Int × Int) : wpF Tryz.prog G59 (na ()) Tryz.f72 cTrip (x, ()) := by
  refine (vc72 x).mpr ?_
  exact ⟨by omega, rfl⟩
theorem ok72 : Ok Tryz.prog 72 cTrip := ok_of_wp mixed g59 (by kernel_rfl) (by kernel_rfl) na fun xx => wp72 xx.1
abbrev G60 : Gam := (72, cTrip) :: G59
theorem g60 : GamOk Tryz.prog G60 := .cons ok72 g59
theorem vc73 : ∀ (x : Int × Int × Int × Int), wpF Tryz.prog G60 (na ()) Tryz.f73 cTrip (x, ()) = ((4 : Nat) ≤ (1000000 : Nat) ∧ ((firstS [withinS x.fst (0 : Int) (10000 : Int), withinS x.snd.fst (0 : Int) (10000 : Int), withinS x.snd.snd.fst (1 : Int) (10000 : Int), withinS x.snd.snd.snd (1 : Int) (10000 : Int)] != (0 : Int)) = true → firstS [withinS x.fst (0 : Int) (10000 : Int), withinS x.snd.fst (0 : Int) (10000 : Int), withinS x.snd.snd.fst (1 : Int) (10000 : Int), withinS x.snd.snd.snd (1 : Int) (10000 : Int)] = tripS x) ∧ ((firstS [withinS x.fst (0 : Int) (10000 : Int), withinS x.snd.fst (0 : Int) (10000 : Int), withinS x.snd.snd.fst (1 : Int) (10000 : Int), withinS x.snd.snd.snd (1 : Int) (10000 : Int)] != (0 : Int)) = false → (decide (x.snd.fst < x.fst) = true → (11 : Int) = tripS x) ∧ (decide (x.snd.fst < x.fst) = false → (0 : Int) = tripS x))) := by
  intros
  kernel_rfl
theorem wp73 (x : Int × Int × Int × Int) : wpF Tryz.prog G60 (na ()) Tryz.f73 cTrip (x, ()) := by
  refine (vc73 x).mpr ?_
  exact ⟨by omega, last_check rfl⟩
theorem ok73 : Ok Tryz.prog 73 cTrip := ok_of_wp mixed g60 (by kernel_rfl) (by kernel_rfl) na fun xx => wp73 xx.1
abbrev G61 : Gam := (73, cTrip) :: G60
theorem g61 : GamOk Tryz.prog G61 := .cons ok73 g60
def cCheckDev : Con := { args := [aI], ress := [I], owns := [], pre := fun _ => [], spec := fun (n, _) => (withinS n (-10000) 10000, ()) }
theorem vc145 : ∀ (n : Int), wpF Tryz.prog G61 (na ()) Tryz.f145 cCheckDev (n, ()) = (withinS n (-10000 : Int) (10000 : Int) = withinS n (-10000 : Int) (10000 : Int)) := by
  intros
  kernel_rfl
theorem wp145 (n : Int) : wpF Tryz.prog G61 (na ()) Tryz.f145 cCheckDev (n, ()) := by
  refine (vc145 n).mpr ?_
  rfl
theorem ok145 : Ok Tryz.prog 145 cCheckDev := ok_of_wp mixed g61 (by kernel_rfl) (by kernel_rfl) na fun xx => wp145 xx.1
abbrev G62 : Gam := (145, cCheckDev) :: G61
theorem g62 : GamOk Tryz.prog G62 := .cons ok145 g61
def cCheckLoad : Con := { args := [aI], ress := [I], owns := [], pre := fun _ => [], spec := fun (n, _) => (withinS n (-3000) 3000, ()) }
theorem vc107 : ∀ (n : Int), wpF Tryz.prog G62 (na ()) Tryz.f107 cCheckLoad (n, ()) = (withinS n (-3000 : Int) (3000 : Int) = withinS n (-3000 : Int) (3000 : Int)) := by
  intros
  kernel_rfl
theorem wp107 (n : Int) : wpF Tryz.prog G62 (na ()) Tryz.f107 cCheckLoad (n, ()) := by
  refine (vc107 n).mpr ?_
  rfl
theorem ok107 : Ok Tryz.prog 107 cCheckLoad := ok_of_wp mixed g62 (by kernel_rfl) (by kernel_rfl) na fun xx => wp107 xx.1
abbrev G63 : Gam := (107, cCheckLoad) :: G62
theorem g63 : GamOk Tryz.prog G63 := .cons ok107 g62

def ordersGo : List (Int × Int) → Int → Int
  | [], _ => 0
  | p :: r, last => let e := firstS [withinS p.1 0 100000, withinS p.2 (-1000) 1000, bif decide (p.1 ≤ last) then 11 else 0]
    if e ≠ 0 then e else ordersGo r p.1
def ordersS (l : List (Int × Int)) : Int := if 32 < l.length then 5 else ordersGo l (-1)
def lastTick (l : List (Int × Int)) (k : Nat) : Int := if k = 0 then -1 else (l.getD (k - 1) (0, 0)).1
theorem ordersGo_drop {l : List (Int × Int)} {k : Nat} (h : k < l.length) : ordersGo (l.drop k) (lastTick l k) = (let p := l.getD k (0, 0)
    let e := firstS [withinS p.1 0 100000, withinS p.2 (-1000) 1000, bif decide (p.1 ≤ lastTick l k) then 11 else 0]
    if e ≠ 0 then e else ordersGo (l.drop (k + 1)) (lastTick l (k + 1))) := by
  rw [List.drop_eq_getElem_cons h]
  have e1 : l.getD k (0, 0) = l[k] := by simp [List.getD_eq_getElem?_getD, h]
  have e2 : lastTick l (k + 1) = l[k].1 := by simp [lastTick, List.getD_eq_getElem?_getD, h]
  simp only [ordersGo, e1, e2]
def cOrders : Con := { args := [aL 172], ress := [I], owns := [], pre := fun _ => [], spec := fun (l, _) => (ordersS l, ()) }
abbrev annOrders (l : List (Int × Int)) : Ann := { X := Nat, σ := fun k => ⟨1, [(3, .one (.int .i64 (lastTick l k))), (10, .one (.sl 0)), (11, .one (.int .i64 l.length)), (12, .one (.int .i64 k))], [(0, .imm 172 sPt l)]⟩, inv := fun k => k ≤ l.length ∧ l.length ≤ 32 ∧ ordersGo l (-1) = ordersGo (l.drop k) (lastTick l k), mu := fun k => l.length - k }
theorem vc56 : ∀ (l : List (Int × Int)), wpF Tryz.prog G63 (ann0 (annOrders l)) Tryz.f56 cOrders (l, ()) = ((decide ((32 : Int) < (↑(List.length l) : Int)) = true → (5 : Int) = ordersS l) ∧ (decide ((32 : Int) < (↑(List.length l) : Int)) = false → ∃ (x : Nat), ((-1 : Int) = lastTick l x ∧ (↑(List.length l) : Int) = (↑(List.length l) : Int) ∧ (0 : Int) = (↑x : Int) ∧ l = l) ∧ (x ≤ List.length l ∧ List.length l ≤ (32 : Nat) ∧ ordersGo l (-1 : Int) = ordersGo (List.drop x l) (lastTick l x)) ∧ ∀ (x : Nat), x ≤ List.length l ∧ List.length l ≤ (32 : Nat) ∧ ordersGo l (-1 : Int) = ordersGo (List.drop x l) (lastTick l x) → (decide ((↑x : Int) < (↑(List.length l) : Int)) = true → (((0 : Int) ≤ (↑x : Int) ∧ (↑x : Int) < (↑(List.length l) : Int)) ∧ (0 : Int) ≤ (↑x : Int) ∧ (↑x : Int) < (↑(List.length l) : Int)) ∧ (3 : Nat) ≤ (1000000 : Nat) ∧ ((firstS [withinS (List.getD l x ((0 : Int), (0 : Int))).fst (0 : Int) (100000 : Int), withinS (List.getD l x ((0 : Int), (0 : Int))).snd (-1000 : Int) (1000 : Int), bif decide ((List.getD l x ((0 : Int), (0 : Int))).fst ≤ lastTick l x) then (11 : Int) else (0 : Int)] != (0 : Int)) = true → firstS [withinS (List.getD l x ((0 : Int), (0 : Int))).fst (0 : Int) (100000 : Int), withinS (List.getD l x ((0 : Int), (0 : Int))).snd (-1000 : Int) (1000 : Int), bif decide ((List.getD l x ((0 : Int), (0 : Int))).fst ≤ lastTick l x) then (11 : Int) else (0 : Int)] = ordersS l) ∧ ((firstS [withinS (List.getD l x ((0 : Int), (0 : Int))).fst (0 : Int) (100000 : Int), withinS (List.getD l x ((0 : Int), (0 : Int))).snd (-1000 : Int) (1000 : Int), bif decide ((List.getD l x ((0 : Int), (0 : Int))).fst ≤ lastTick l x) then (11 : Int) else (0 : Int)] != (0 : Int)) = false → ((-9223372036854775808 : Int) ≤ (↑x : Int) + (1 : Int) ∧ (↑x : Int) + (1 : Int) ≤ (9223372036854775807 : Int)) ∧ ∃ (y : Nat), ((List.getD l x ((0 : Int), (0 : Int))).fst = lastTick l y ∧ (↑(List.length l) : Int) = (↑(List.length l) : Int) ∧ (↑x : Int) + (1 : Int) = (↑y : Int) ∧ l = l) ∧ (y ≤ List.length l ∧ List.length l ≤ (32 : Nat) ∧ ordersGo l (-1 : Int) = ordersGo (List.drop y l) (lastTick l y)) ∧ List.length l - y < List.length l - x)) ∧ (decide ((↑x : Int) < (↑(List.length l) : Int)) = false → (0 : Int) = ordersS l))) := by
  intros
  kernel_rfl
theorem wp56 (l : List (Int × Int)) : wpF Tryz.prog G63 (ann0 (annOrders l)) Tryz.f56 cOrders (l, ()) := by
  refine (vc56 l).mpr ?_
  refine ⟨fun h => ?_, fun h => ?_⟩
  · have h2 : 32 < l.length := by have : 32 < (l.length : Int) := by simpa using h
                                  omega
    simp [ordersS, h2]
  · have h2 : ¬ 32 < l.length := by have : ¬ 32 < (l.length : Int) := by simpa using h
                                    omega
    have hS : ordersS l = ordersGo l (-1) := by simp [ordersS, h2]
    refine ⟨(0 : Nat), ⟨rfl, rfl, rfl, rfl⟩, ⟨Nat.zero_le _, by omega, rfl⟩, fun (k : Nat) hk => ⟨fun h => ?_, fun h => ?_⟩⟩
    · have hlt : k < l.length := by simpa using h
      have hd := ordersGo_drop hlt
      simp only at hd
      rw [hS, hk.2.2, hd]
      refine ⟨by omega, by omega, fun h3 => ?_, fun h3 => ⟨by omega, (k + 1 : Nat), ⟨by simp [lastTick], rfl, by simp, rfl⟩, ⟨by omega, by omega, ?_⟩, by omega⟩⟩
      · rw [if_pos (by simpa using h3)]
      · rw [if_neg (by simpa using h3)]
    · have hlt : ¬ k < l.length := by simpa using h
      have e : k = l.length := by omega
      rw [hS, hk.2.2, e, List.drop_length]; rfl
theorem ok56 : Ok Tryz.prog 56 cOrders := ok_of_wp mixed g63 (by kernel_rfl) (by kernel_rfl) (fun xx => ann0 (annOrders xx.1)) fun xx => wp56 xx.1
abbrev G64 : Gam := (56, cOrders) :: G63
theorem g64 : GamOk Tryz.prog G64 := .cons ok56 g63
def askedGo (t : Int) : List (Int × Int) → Int → Int
  | [], p => p
  | x :: r, p => askedGo t r (if x.1 ≤ t then x.2 else p)
def askedS (l : List (Int × Int)) (t : Int) : Int := askedGo t l 0
def cAsked (T : TypeId) : Con := { args := [aL T, aI], ress := [I], owns := [], pre := fun (l, _, _) => [l.length ≤ 1000000], spec := fun (l, t, _) => (askedS l t, ()) }
abbrev annAsked (l : List (Int × Int)) (t : Int) : Ann := { X := Nat × Int, σ := fun (k, p) => ⟨1, [(1, .one (.int .i64 t)), (5, .one (.int .i64 p)), (8, .one (.sl 0)), (9, .one (.int .i64 l.length)), (10, .one (.int .i64 k))], [(0, .imm 172 sPt l)]⟩, inv := fun (k, p) => k ≤ l.length ∧ askedS l t = askedGo t (l.drop k) p, mu := fun (k, _) => l.length - k }
theorem askedGo_drop {l : List (Int × Int)} {k : Nat} {t p : Int} (h : k < l.length) : askedGo t (l.drop k) p = askedGo t (l.drop (k + 1)) (if (l.getD k (0, 0)).1 ≤ t then (l.getD k (0, 0)).2 else p) := by
  have e1 : l.getD k (0, 0) = l[k] := by simp [List.getD_eq_getElem?_getD, h]
  rw [List.drop_eq_getElem_cons h, e1]
  rfl
theorem vc126 : ∀ (l : List (Int × Int)) (t : Int), wpF Tryz.prog G64 (ann0 (annAsked l t)) Tryz.f126 (cAsked (172 : TypeId)) (l, t, ()) = (List.length l ≤ (1000000 : Nat) → ∃ (x : Nat × Int), (t = t ∧ (0 : Int) = x.2 ∧ (↑(List.length l) : Int) = (↑(List.length l) : Int) ∧ (0 : Int) = (↑x.1 : Int) ∧ l = l) ∧ (x.fst ≤ List.length l ∧ askedS l t = askedGo t (List.drop x.fst l) x.snd) ∧ ∀ (x : Nat × Int), x.fst ≤ List.length l ∧ askedS l t = askedGo t (List.drop x.fst l) x.snd → (decide ((↑x.1 : Int) < (↑(List.length l) : Int)) = true → (((0 : Int) ≤ (↑x.1 : Int) ∧ (↑x.1 : Int) < (↑(List.length l) : Int)) ∧ (0 : Int) ≤ (↑x.1 : Int) ∧ (↑x.1 : Int) < (↑(List.length l) : Int)) ∧ (decide ((List.getD l x.1 ((0 : Int), (0 : Int))).fst ≤ t) = true → ((-9223372036854775808 : Int) ≤ (↑x.1 : Int) + (1 : Int) ∧ (↑x.1 : Int) + (1 : Int) ≤ (9223372036854775807 : Int)) ∧ ∃ (y : Nat × Int), (t = t ∧ (List.getD l x.1 ((0 : Int), (0 : Int))).snd = y.2 ∧ (↑(List.length l) : Int) = (↑(List.length l) : Int) ∧ (↑x.1 : Int) + (1 : Int) = (↑y.1 : Int) ∧ l = l) ∧ (y.fst ≤ List.length l ∧ askedS l t = askedGo t (List.drop y.fst l) y.snd) ∧ List.length l - y.fst < List.length l - x.fst) ∧ (decide ((List.getD l x.1 ((0 : Int), (0 : Int))).fst ≤ t) = false → ((-9223372036854775808 : Int) ≤ (↑x.1 : Int) + (1 : Int) ∧ (↑x.1 : Int) + (1 : Int) ≤ (9223372036854775807 : Int)) ∧ ∃ (y : Nat × Int), (t = t ∧ x.2 = y.2 ∧ (↑(List.length l) : Int) = (↑(List.length l) : Int) ∧ (↑x.1 : Int) + (1 : Int) = (↑y.1 : Int) ∧ l = l) ∧ (y.fst ≤ List.length l ∧ askedS l t = askedGo t (List.drop y.fst l) y.snd) ∧ List.length l - y.fst < List.length l - x.fst)) ∧ (decide ((↑x.1 : Int) < (↑(List.length l) : Int)) = false → x.2 = askedS l t)) := by
  intros
  kernel_rfl
theorem wp126 (l : List (Int × Int)) (t : Int) : wpF Tryz.prog G64 (ann0 (annAsked l t)) Tryz.f126 (cAsked 172) (l, t, ()) := by
  refine (vc126 l t).mpr ?_
  intro hb
  refine ⟨(0, 0), by simp, ⟨Nat.zero_le _, rfl⟩, fun (x : Nat × Int) hx => ⟨fun h => ?_, fun h => ?_⟩⟩
  · obtain ⟨k, p⟩ := x
    obtain ⟨i1, i2⟩ := hx
    dsimp only at *
    have hlt : k < l.length := by simpa using h
    have hd := askedGo_drop (t := t) (p := p) hlt
    refine ⟨by omega, fun h1 => ⟨by omega, (k + 1, (l.getD k (0, 0)).2), by simp, ⟨by show k + 1 ≤ l.length; omega, ?_⟩, by show l.length - (k + 1) < l.length - k; omega⟩, fun h1 => ⟨by omega, (k + 1, p), by simp, ⟨by show k + 1 ≤ l.length; omega, ?_⟩, by show l.length - (k + 1) < l.length - k; omega⟩⟩
    · rw [i2, hd, if_pos (by simpa using h1)]
    · rw [i2, hd, if_neg (by simpa using h1)]
  · obtain ⟨k, p⟩ := x
    obtain ⟨i1, i2⟩ := hx
    dsimp only at *
    have hlt : ¬ k < l.length := by simpa using h
    have e : k = l.length := by omega
    rw [i2, e, List.drop_length]; rfl
theorem ok126 : Ok Tryz.prog 126 (cAsked 172) := ok_of_wp mixed g64 (by kernel_rfl) (by kernel_rfl) (fun xx => ann0 (annAsked xx.1 xx.2.1)) fun xx => wp126 xx.1 xx.2.1
abbrev G65 : Gam := (126, (cAsked 172)) :: G64
theorem g65 : GamOk Tryz.prog G65 := .cons ok126 g64
end Go.Proofs.YtacaadhlobbemaaGreatDoor
namespace Go.Proofs.YtacaadhlobbemaaGreatDoor
open Go.Sx
def cROrders : Con := { args := [aL 142], ress := [I], owns := [], pre := fun _ => [], spec := fun (l, _) => (ordersS l, ()) }
abbrev annROrders (l : List (Int × Int)) : Ann := { X := Nat, σ := fun k => ⟨1, [(0, .one (.sl 0)), (3, .one (.int .i64 k))], [(0, .imm 142 sPt l)]⟩, inv := fun k => k ≤ l.length ∧ l.length ≤ 32 ∧ ordersGo l (-1) = ordersGo (l.drop k) (lastTick l k), mu := fun k => l.length - k }
theorem vc57 : ∀ (l : List (Int × Int)), wpF Tryz.prog G65 (ann0 (annROrders l)) Tryz.f57 cROrders (l, ()) = ((decide ((32 : Int) < (↑(List.length l) : Int)) = true → (5 : Int) = ordersS l) ∧ (decide ((32 : Int) < (↑(List.length l) : Int)) = false → ∃ (x : Nat), ((0 : Int) = (↑x : Int) ∧ l = l) ∧ (x ≤ List.length l ∧ List.length l ≤ (32 : Nat) ∧ ordersGo l (-1 : Int) = ordersGo (List.drop x l) (lastTick l x)) ∧ ∀ (x : Nat), x ≤ List.length l ∧ List.length l ≤ (32 : Nat) ∧ ordersGo l (-1 : Int) = ordersGo (List.drop x l) (lastTick l x) → (decide ((↑x : Int) < (↑(List.length l) : Int)) = true → (((0 : Int) ≤ (↑x : Int) ∧ (↑x : Int) < (↑(List.length l) : Int)) ∧ ((0 : Int) ≤ (↑x : Int) ∧ (↑x : Int) < (↑(List.length l) : Int)) ∧ ((0 : Int) ≤ (↑x : Int) ∧ (↑x : Int) < (↑(List.length l) : Int)) ∧ ((0 : Int) ≤ (↑x : Int) ∧ (↑x : Int) < (↑(List.length l) : Int)) ∧ (2 : Nat) ≤ (1000000 : Nat)) ∧ ((firstS [withinS (List.getD l x ((0 : Int), (0 : Int))).fst (0 : Int) (100000 : Int), withinS (List.getD l x ((0 : Int), (0 : Int))).snd (-1000 : Int) (1000 : Int)] != (0 : Int)) = true → firstS [withinS (List.getD l x ((0 : Int), (0 : Int))).fst (0 : Int) (100000 : Int), withinS (List.getD l x ((0 : Int), (0 : Int))).snd (-1000 : Int) (1000 : Int)] = ordersS l) ∧ ((firstS [withinS (List.getD l x ((0 : Int), (0 : Int))).fst (0 : Int) (100000 : Int), withinS (List.getD l x ((0 : Int), (0 : Int))).snd (-1000 : Int) (1000 : Int)] != (0 : Int)) = false → ((decide ((0 : Int) < (↑x : Int)) = true → (0 : Int) ≤ (↑x : Int) ∧ (↑x : Int) < (↑(List.length l) : Int)) ∧ (decide ((0 : Int) < (↑x : Int)) = true → (0 : Int) ≤ (↑x : Int) ∧ (↑x : Int) < (↑(List.length l) : Int)) ∧ (decide ((0 : Int) < (↑x : Int)) = true → (-9223372036854775808 : Int) ≤ (↑x : Int) - (1 : Int) ∧ (↑x : Int) - (1 : Int) ≤ (9223372036854775807 : Int)) ∧ (decide ((0 : Int) < (↑x : Int)) = true → (0 : Int) ≤ (↑x : Int) - (1 : Int) ∧ (↑x : Int) - (1 : Int) < (↑(List.length l) : Int)) ∧ (decide ((0 : Int) < (↑x : Int)) = true → (0 : Int) ≤ (↑x : Int) - (1 : Int) ∧ (↑x : Int) - (1 : Int) < (↑(List.length l) : Int))) ∧ ((bif decide ((0 : Int) < (↑x : Int)) then decide ((List.getD l x ((0 : Int), (0 : Int))).fst ≤ (List.getD l (Int.toNat ((↑x : Int) - (1 : Int))) ((0 : Int), (0 : Int))).fst) else false) = true → (11 : Int) = ordersS l) ∧ ((bif decide ((0 : Int) < (↑x : Int)) then decide ((List.getD l x ((0 : Int), (0 : Int))).fst ≤ (List.getD l (Int.toNat ((↑x : Int) - (1 : Int))) ((0 : Int), (0 : Int))).fst) else false) = false → ((-9223372036854775808 : Int) ≤ (↑x : Int) + (1 : Int) ∧ (↑x : Int) + (1 : Int) ≤ (9223372036854775807 : Int)) ∧ ∃ (y : Nat), ((↑x : Int) + (1 : Int) = (↑y : Int) ∧ l = l) ∧ (y ≤ List.length l ∧ List.length l ≤ (32 : Nat) ∧ ordersGo l (-1 : Int) = ordersGo (List.drop y l) (lastTick l y)) ∧ List.length l - y < List.length l - x))) ∧ (decide ((↑x : Int) < (↑(List.length l) : Int)) = false → (0 : Int) = ordersS l))) := by
  intros
  kernel_rfl
theorem wp57 (l : List (Int × Int)) : wpF Tryz.prog G65 (ann0 (annROrders l)) Tryz.f57 cROrders (l, ()) := by
  refine (vc57 l).mpr ?_
  refine ⟨fun h => ?_, fun h => ?_⟩
  · have h2 : 32 < l.length := by have : 32 < (l.length : Int) := by simpa using h
                                  omega
    simp [ordersS, h2]
  · have h2 : ¬ 32 < l.length := by have : ¬ 32 < (l.length : Int) := by simpa using h
                                    omega
    have hS : ordersS l = ordersGo l (-1) := by simp [ordersS, h2]
    refine ⟨(0 : Nat), ⟨rfl, rfl⟩, ⟨Nat.zero_le _, by omega, rfl⟩, fun (k : Nat) hk => ⟨fun h => ?_, fun h => ?_⟩⟩
    · have hlt : k < l.length := by simpa using h
      have hd := ordersGo_drop hlt
      simp only at hd
      have hsn : ∀ c : Int, firstS [withinS (l.getD k (0, 0)).1 0 100000, withinS (l.getD k (0, 0)).2 (-1000) 1000, c] = if firstS [withinS (l.getD k (0, 0)).1 0 100000, withinS (l.getD k (0, 0)).2 (-1000) 1000] = 0 then c else firstS [withinS (l.getD k (0, 0)).1 0 100000, withinS (l.getD k (0, 0)).2 (-1000) 1000] := fun c => firstS_snoc (l := [_, _])
      rw [hsn] at hd
      have ek : ((k : Int) - 1).toNat = k - 1 := by omega
      rw [hS, hk.2.2, hd, ek]
      refine ⟨by omega, fun h3 => ?_, fun h3 => ⟨?_, ?_⟩⟩
      · have h3' : ¬ firstS [withinS (l.getD k (0, 0)).1 0 100000, withinS (l.getD k (0, 0)).2 (-1000) 1000] = 0 := by simpa using h3
        rw [if_neg h3', if_pos h3']
      · simp only [decide_eq_true_eq]
        refine ⟨?_, ?_, ?_, ?_, ?_⟩ <;> intro h5 <;> omega
      · have h3' : firstS [withinS (l.getD k (0, 0)).1 0 100000, withinS (l.getD k (0, 0)).2 (-1000) 1000] = 0 := by simpa using h3
        have h4 := h3'
        rw [firstS_zero] at h4
        have hw := withinS_zero h4.1
        have hc : (bif decide (0 < (k : Int)) then decide ((l.getD k (0, 0)).1 ≤ (l.getD (k - 1) (0, 0)).1) else false) = decide ((l.getD k (0, 0)).1 ≤ lastTick l k) := by
          by_cases hk0 : k = 0
          · subst hk0
            have : ¬ (l.getD 0 (0, 0)).1 ≤ lastTick l 0 := by simp only [lastTick, if_true]; omega
            simp only [this, decide_false]; rfl
          · have h6 : decide (0 < (k : Int)) = true := by simp; omega
            have h7 : lastTick l k = (l.getD (k - 1) (0, 0)).1 := by simp only [lastTick, if_neg hk0]
            rw [h6, h7]; rfl
        rw [hc, if_pos h3']
        refine ⟨fun h5 => ?_, fun h5 => ⟨by omega, (k + 1 : Nat), ⟨by simp, rfl⟩, ⟨by omega, by omega, ?_⟩, by omega⟩⟩
        · rw [h5]; simp
        · rw [h5]; simp
    · have hlt : ¬ k < l.length := by simpa using h
      have e : k = l.length := by omega
      rw [hS, hk.2.2, e, List.drop_length]; rfl
theorem ok57 : Ok Tryz.prog 57 cROrders := ok_of_wp mixed g65 (by kernel_rfl) (by kernel_rfl) (fun xx => ann0 (annROrders xx.1)) fun xx => wp57 xx.1
abbrev G66 : Gam := (57, cROrders) :: G65
theorem g66 : GamOk Tryz.prog G66 := .cons ok57 g65
abbrev annRAsked (l : List (Int × Int)) (t : Int) : Ann := { X := Nat × Int, σ := fun (k, p) => ⟨1, [(0, .one (.sl 0)), (1, .one (.int .i64 t)), (5, .one (.int .i64 p)), (6, .one (.int .i64 k))], [(0, .imm 142 sPt l)]⟩, inv := fun (k, p) => k ≤ l.length ∧ askedS l t = askedGo t (l.drop k) p, mu := fun (k, _) => l.length - k }
theorem vc80 : ∀ (l : List (Int × Int)) (t : Int), wpF Tryz.prog G66 (ann0 (annRAsked l t)) Tryz.f80 (cAsked (142 : TypeId)) (l, t, ()) = (List.length l ≤ (1000000 : Nat) → ∃ (x : Nat × Int), (t = t ∧ (0 : Int) = x.2 ∧ (0 : Int) = (↑x.1 : Int) ∧ l = l) ∧ (x.fst ≤ List.length l ∧ askedS l t = askedGo t (List.drop x.fst l) x.snd) ∧ ∀ (x : Nat × Int), x.fst ≤ List.length l ∧ askedS l t = askedGo t (List.drop x.fst l) x.snd → (decide ((↑x.1 : Int) < (↑(List.length l) : Int)) = true → (((0 : Int) ≤ (↑x.1 : Int) ∧ (↑x.1 : Int) < (↑(List.length l) : Int)) ∧ (0 : Int) ≤ (↑x.1 : Int) ∧ (↑x.1 : Int) < (↑(List.length l) : Int)) ∧ (decide ((List.getD l x.1 ((0 : Int), (0 : Int))).fst ≤ t) = true → (((0 : Int) ≤ (↑x.1 : Int) ∧ (↑x.1 : Int) < (↑(List.length l) : Int)) ∧ (0 : Int) ≤ (↑x.1 : Int) ∧ (↑x.1 : Int) < (↑(List.length l) : Int)) ∧ ((-9223372036854775808 : Int) ≤ (↑x.1 : Int) + (1 : Int) ∧ (↑x.1 : Int) + (1 : Int) ≤ (9223372036854775807 : Int)) ∧ ∃ (y : Nat × Int), (t = t ∧ (List.getD l x.1 ((0 : Int), (0 : Int))).snd = y.2 ∧ (↑x.1 : Int) + (1 : Int) = (↑y.1 : Int) ∧ l = l) ∧ (y.fst ≤ List.length l ∧ askedS l t = askedGo t (List.drop y.fst l) y.snd) ∧ List.length l - y.fst < List.length l - x.fst) ∧ (decide ((List.getD l x.1 ((0 : Int), (0 : Int))).fst ≤ t) = false → ((-9223372036854775808 : Int) ≤ (↑x.1 : Int) + (1 : Int) ∧ (↑x.1 : Int) + (1 : Int) ≤ (9223372036854775807 : Int)) ∧ ∃ (y : Nat × Int), (t = t ∧ x.2 = y.2 ∧ (↑x.1 : Int) + (1 : Int) = (↑y.1 : Int) ∧ l = l) ∧ (y.fst ≤ List.length l ∧ askedS l t = askedGo t (List.drop y.fst l) y.snd) ∧ List.length l - y.fst < List.length l - x.fst)) ∧ (decide ((↑x.1 : Int) < (↑(List.length l) : Int)) = false → x.2 = askedS l t)) := by
  intros
  kernel_rfl
theorem wp80 (l : List (Int × Int)) (t : Int) : wpF Tryz.prog G66 (ann0 (annRAsked l t)) Tryz.f80 (cAsked 142) (l, t, ()) := by
  refine (vc80 l t).mpr ?_
  intro hb
  refine ⟨(0, 0), by simp, ⟨Nat.zero_le _, rfl⟩, fun (x : Nat × Int) hx => ⟨fun h => ?_, fun h => ?_⟩⟩
  · obtain ⟨k, p⟩ := x
    obtain ⟨i1, i2⟩ := hx
    dsimp only at *
    have hlt : k < l.length := by simpa using h
    have hd := askedGo_drop (t := t) (p := p) hlt
    refine ⟨by omega, fun h1 => ⟨by omega, by omega, (k + 1, (l.getD k (0, 0)).2), by simp, ⟨by show k + 1 ≤ l.length; omega, ?_⟩, by show l.length - (k + 1) < l.length - k; omega⟩, fun h1 => ⟨by omega, (k + 1, p), by simp, ⟨by show k + 1 ≤ l.length; omega, ?_⟩, by show l.length - (k + 1) < l.length - k; omega⟩⟩
    · rw [i2, hd, if_pos (by simpa using h1)]
    · rw [i2, hd, if_neg (by simpa using h1)]
  · obtain ⟨k, p⟩ := x
    obtain ⟨i1, i2⟩ := hx
    dsimp only at *
    have hlt : ¬ k < l.length := by simpa using h
    have e : k = l.length := by omega
    rw [i2, e, List.drop_length]; rfl
theorem ok80 : Ok Tryz.prog 80 (cAsked 142) := ok_of_wp mixed g66 (by kernel_rfl) (by kernel_rfl) (fun xx => ann0 (annRAsked xx.1 xx.2.1)) fun xx => wp80 xx.1 xx.2.1
abbrev G67 : Gam := (80, (cAsked 142)) :: G66
theorem g67 : GamOk Tryz.prog G67 := .cons ok80 g66
end Go.Proofs.YtacaadhlobbemaaGreatDoor
namespace Go.Proofs.YtacaadhlobbemaaGreatDoor
open Go.Sx
def balGo (x : Int × Int × Int) : List Int → Int × Int → Int × Int
  | [], s => s
  | n :: r, s => balGo x r (s.1 + (deliveredS x n).1, s.2 + (deliveredS x n).2)
def balanceS (x : Int × Int × Int) (l : List Int) : (Int × Int) × Int := let e := firstS [lossesS x, bif decide (256 < (l.length : Int)) then 5 else 0]
  if e ≠ 0 then ((0, 0), e) else let d := firstS (l.map fun n => withinS n 0 1000)
  if d ≠ 0 then ((0, 0), d) else (balGo x l (0, 0), 0)
def cXBalance : Con := { args := [a3, .val false (.list 3 sI)], ress := [Pr, I], owns := [], pre := fun _ => [], spec := fun (x, l, _) => ((balanceS x l).1, (balanceS x l).2, ()) }
abbrev annBal (x : Int × Int × Int) (l : List Int) : Ann := { X := Nat × Int × Int, σ := fun (k, a, b) => ⟨4, [(2, .one (.ptr 1 0)), (4, .one (.ptr 2 0)), (8, .one (.ptr 3 0)), (32, .one (.sl 0)), (33, .one (.int .i64 l.length)), (34, .one (.int .i64 k))], [(0, .imm 3 sI l), (1, .box 69 [.int .i64 x.1, .int .i64 x.2.1, .int .i64 x.2.2]), (2, .box 66 [.int .i64 0, .int .i64 0]), (3, .box 198 [.int .i64 a, .int .i64 b])]⟩, inv := fun (k, a, b) => k ≤ l.length ∧ (0 ≤ a ∧ a ≤ 1000 * k) ∧ (0 ≤ b ∧ b ≤ 1000 * k) ∧ balGo x l (0, 0) = balGo x (l.drop k) (a, b), mu := fun (k, _) => l.length - k }
theorem balGo_drop {x : Int × Int × Int} {l : List Int} {k : Nat} {s : Int × Int} (h : k < l.length) : balGo x (l.drop k) s = balGo x (l.drop (k + 1)) (s.1 + (deliveredS x (l.getD k 0)).1, s.2 + (deliveredS x (l.getD k 0)).2) := by
  have e1 : l.getD k 0 = l[k] := by simp [List.getD_eq_getElem?_getD, h]
  rw [List.drop_eq_getElem_cons h, e1]
  rfl
theorem deliveredS_bd {x : Int × Int × Int} {p : Int} (h : lossOk x p) : (0 ≤ (deliveredS x p).1 ∧ (deliveredS x p).1 ≤ 1000) ∧ 0 ≤ (deliveredS x p).2 ∧ (deliveredS x p).2 ≤ 1000 := by
  have hb := lossS_bd h
  have h4 := h.2.2.2
  unfold deliveredS
  dsimp only
  omega
theorem losses_all {x : Int × Int × Int} {l : List Int} (h : lossesS x = 0) (h1 : firstS (l.map fun n => withinS n 0 1000) = 0) : ∀ p ∈ l, lossOk x p := by
  simp only [lossesS, firstS_zero] at h
  have key : ∀ (l : List Int), firstS (l.map fun n => withinS n 0 1000) = 0 → ∀ p ∈ l, withinS p 0 1000 = 0 := by
    intro l
    induction l with
    | nil => intro _ p hp; simp at hp
    | cons y l ih =>
      intro h p hp
      rw [List.map_cons, firstS_zero] at h
      rcases List.mem_cons.1 hp with rfl | hp
      · exact h.1
      · exact ih h.2 p hp
  exact fun p hp => ⟨withinS_zero h.1, withinS_zero h.2.1, withinS_zero h.2.2.1, withinS_zero (key l h1 p hp)⟩
theorem vc42 : ∀ (x : Int × Int × Int) (l : List Int), wpF Tryz.prog G67 (ann0 (annBal x l)) Tryz.f42 cXBalance (x, l, ()) = ((2 : Nat) ≤ (1000000 : Nat) ∧ ((firstS [lossesS (x.fst, x.snd.fst, x.snd.snd), bif decide ((256 : Int) < (↑(List.length l) : Int)) then (5 : Int) else (0 : Int)] != (0 : Int)) = true → ((0 : Int), (0 : Int)) = (balanceS x l).fst ∧ firstS [lossesS (x.fst, x.snd.fst, x.snd.snd), bif decide ((256 : Int) < (↑(List.length l) : Int)) then (5 : Int) else (0 : Int)] = (balanceS x l).snd) ∧ ((firstS [lossesS (x.fst, x.snd.fst, x.snd.snd), bif decide ((256 : Int) < (↑(List.length l) : Int)) then (5 : Int) else (0 : Int)] != (0 : Int)) = false → (List.length l ≤ (1000000 : Nat) ∧ (∀ (x : Int), x ∈ l → True) ∧ List.length (List.map (fun (x : Int) => withinS x (0 : Int) (1000 : Int)) l) ≤ (1000000 : Nat)) ∧ ((firstS (List.map (fun (x : Int) => withinS x (0 : Int) (1000 : Int)) l) != (0 : Int)) = true → ((0 : Int), (0 : Int)) = (balanceS x l).fst ∧ firstS (List.map (fun (x : Int) => withinS x (0 : Int) (1000 : Int)) l) = (balanceS x l).snd) ∧ ((firstS (List.map (fun (x : Int) => withinS x (0 : Int) (1000 : Int)) l) != (0 : Int)) = false → ∃ (x_1 : Nat × Int × Int), ((↑(List.length l) : Int) = (↑(List.length l) : Int) ∧ (0 : Int) = (↑x_1.1 : Int) ∧ l = l ∧ x.fst = x.fst ∧ x.snd.fst = x.snd.fst ∧ x.snd.snd = x.snd.snd ∧ (0 : Int) = (0 : Int) ∧ (0 : Int) = (0 : Int) ∧ (0 : Int) = x_1.2.1 ∧ (0 : Int) = x_1.2.2) ∧ (x_1.fst ≤ List.length l ∧ ((0 : Int) ≤ x_1.2.fst ∧ x_1.2.fst ≤ (1000 : Int) * (↑x_1.fst : Int)) ∧ ((0 : Int) ≤ x_1.2.snd ∧ x_1.2.snd ≤ (1000 : Int) * (↑x_1.fst : Int)) ∧ balGo x l ((0 : Int), (0 : Int)) = balGo x (List.drop x_1.fst l) (x_1.2.fst, x_1.2.snd)) ∧ ∀ (x_2 : Nat × Int × Int), x_2.fst ≤ List.length l ∧ ((0 : Int) ≤ x_2.2.fst ∧ x_2.2.fst ≤ (1000 : Int) * (↑x_2.fst : Int)) ∧ ((0 : Int) ≤ x_2.2.snd ∧ x_2.2.snd ≤ (1000 : Int) * (↑x_2.fst : Int)) ∧ balGo x l ((0 : Int), (0 : Int)) = balGo x (List.drop x_2.fst l) (x_2.2.fst, x_2.2.snd) → (decide ((↑x_2.1 : Int) < (↑(List.length l) : Int)) = true → (((0 : Int) ≤ (↑x_2.1 : Int) ∧ (↑x_2.1 : Int) < (↑(List.length l) : Int)) ∧ (0 : Int) ≤ (↑x_2.1 : Int) ∧ (↑x_2.1 : Int) < (↑(List.length l) : Int)) ∧ lossOk (x.fst, x.snd.fst, x.snd.snd) (List.getD l x_2.1 (0 : Int)) ∧ ((!((deliveredS (x.fst, x.snd.fst, x.snd.snd) (List.getD l x_2.1 (0 : Int))).fst == (0 : Int) && ((deliveredS (x.fst, x.snd.fst, x.snd.snd) (List.getD l x_2.1 (0 : Int))).snd == (0 : Int) && true))) = true → ((-9223372036854775808 : Int) ≤ x_2.2.1 + (deliveredS (x.fst, x.snd.fst, x.snd.snd) (List.getD l x_2.1 (0 : Int))).fst ∧ x_2.2.1 + (deliveredS (x.fst, x.snd.fst, x.snd.snd) (List.getD l x_2.1 (0 : Int))).fst ≤ (9223372036854775807 : Int)) ∧ ((-9223372036854775808 : Int) ≤ x_2.2.2 + (deliveredS (x.fst, x.snd.fst, x.snd.snd) (List.getD l x_2.1 (0 : Int))).snd ∧ x_2.2.2 + (deliveredS (x.fst, x.snd.fst, x.snd.snd) (List.getD l x_2.1 (0 : Int))).snd ≤ (9223372036854775807 : Int)) ∧ ((-9223372036854775808 : Int) ≤ (↑x_2.1 : Int) + (1 : Int) ∧ (↑x_2.1 : Int) + (1 : Int) ≤ (9223372036854775807 : Int)) ∧ ∃ (y : Nat × Int × Int), ((↑(List.length l) : Int) = (↑(List.length l) : Int) ∧ (↑x_2.1 : Int) + (1 : Int) = (↑y.1 : Int) ∧ l = l ∧ x.fst = x.fst ∧ x.snd.fst = x.snd.fst ∧ x.snd.snd = x.snd.snd ∧ (0 : Int) = (0 : Int) ∧ (0 : Int) = (0 : Int) ∧ x_2.2.1 + (deliveredS (x.fst, x.snd.fst, x.snd.snd) (List.getD l x_2.1 (0 : Int))).fst = y.2.1 ∧ x_2.2.2 + (deliveredS (x.fst, x.snd.fst, x.snd.snd) (List.getD l x_2.1 (0 : Int))).snd = y.2.2) ∧ (y.fst ≤ List.length l ∧ ((0 : Int) ≤ y.2.fst ∧ y.2.fst ≤ (1000 : Int) * (↑y.fst : Int)) ∧ ((0 : Int) ≤ y.2.snd ∧ y.2.snd ≤ (1000 : Int) * (↑y.fst : Int)) ∧ balGo x l ((0 : Int), (0 : Int)) = balGo x (List.drop y.fst l) (y.2.fst, y.2.snd)) ∧ List.length l - y.fst < List.length l - x_2.fst) ∧ ((!((deliveredS (x.fst, x.snd.fst, x.snd.snd) (List.getD l x_2.1 (0 : Int))).fst == (0 : Int) && ((deliveredS (x.fst, x.snd.fst, x.snd.snd) (List.getD l x_2.1 (0 : Int))).snd == (0 : Int) && true))) = false → ((-9223372036854775808 : Int) ≤ (↑x_2.1 : Int) + (1 : Int) ∧ (↑x_2.1 : Int) + (1 : Int) ≤ (9223372036854775807 : Int)) ∧ ∃ (y : Nat × Int × Int), ((↑(List.length l) : Int) = (↑(List.length l) : Int) ∧ (↑x_2.1 : Int) + (1 : Int) = (↑y.1 : Int) ∧ l = l ∧ x.fst = x.fst ∧ x.snd.fst = x.snd.fst ∧ x.snd.snd = x.snd.snd ∧ (0 : Int) = (0 : Int) ∧ (0 : Int) = (0 : Int) ∧ x_2.2.1 = y.2.1 ∧ x_2.2.2 = y.2.2) ∧ (y.fst ≤ List.length l ∧ ((0 : Int) ≤ y.2.fst ∧ y.2.fst ≤ (1000 : Int) * (↑y.fst : Int)) ∧ ((0 : Int) ≤ y.2.snd ∧ y.2.snd ≤ (1000 : Int) * (↑y.fst : Int)) ∧ balGo x l ((0 : Int), (0 : Int)) = balGo x (List.drop y.fst l) (y.2.fst, y.2.snd)) ∧ List.length l - y.fst < List.length l - x_2.fst)) ∧ (decide ((↑x_2.1 : Int) < (↑(List.length l) : Int)) = false → (x_2.2.1, x_2.2.2) = (balanceS x l).fst ∧ (0 : Int) = (balanceS x l).snd)))) := by
  intros
  kernel_rfl
theorem wp42 (x : Int × Int × Int) (l : List Int) : wpF Tryz.prog G67 (ann0 (annBal x l)) Tryz.f42 cXBalance (x, l, ()) := by
  refine (vc42 x l).mpr ?_
  have hE : lossesS (x.1, x.2.1, x.2.2) = lossesS x := rfl
  rw [hE]
  refine ⟨by omega, fun h => ?_, fun h => ?_⟩
  · have h0 : firstS [lossesS x, bif decide (256 < (l.length : Int)) then 5 else 0] ≠ 0 := by simpa using h
    simp only [balanceS, if_pos h0]; exact ⟨trivial, trivial⟩
  · have h0 : firstS [lossesS x, bif decide (256 < (l.length : Int)) then 5 else 0] = 0 := by simpa using h
    have h0' := h0
    rw [firstS_zero, firstS_zero] at h0'
    have hlen : l.length ≤ 256 := by
      rcases Nat.lt_or_ge 256 l.length with h1 | h1
      · have : (256 : Int) < l.length := by omega
        have h2 := h0'.2.1
        simp [this] at h2
      · exact h1
    refine ⟨⟨by omega, fun _ _ => trivial, by simp; omega⟩, fun h1 => ?_, fun h1 => ?_⟩
    · have h1' : firstS (l.map fun n => withinS n 0 1000) ≠ 0 := by simpa using h1
      simp only [balanceS, h0, ne_eq, not_true_eq_false, if_false, if_pos h1']; exact ⟨trivial, trivial⟩
    · have h1' : firstS (l.map fun n => withinS n 0 1000) = 0 := by
        have : firstS (List.map (fun n => withinS n 0 1000) l) = 0 := by simpa only [bne_eq_false_iff_eq] using h1
        exact this
      have hS : balanceS x l = (balGo x l (0, 0), 0) := by simp only [balanceS, h0, h1', ne_eq, not_true_eq_false, if_false]
      have hok := losses_all h0'.1 h1'
      rw [hS]
      refine ⟨(0, 0, 0), by simp, ⟨Nat.zero_le _, by simp, by simp, rfl⟩, fun (y : Nat × Int × Int) hy => ⟨fun h => ?_, fun h => ?_⟩⟩
      · obtain ⟨k, a, b⟩ := y
        obtain ⟨i1, i2, i3, i4⟩ := hy
        dsimp only at *
        have hlt : k < l.length := by simpa using h
        have ho := hok _ (getD_mem (d := 0) hlt)
        have hd := balGo_drop (x := x) (s := (a, b)) hlt
        have hb := deliveredS_bd ho
        have e3 : deliveredS (x.1, x.2.1, x.2.2) (l.getD k 0) = deliveredS x (l.getD k 0) := rfl
        rw [e3]
        generalize deliveredS x (l.getD k 0) = d at *
        refine ⟨by omega, ho, fun h2 => ⟨by omega, by omega, by omega, (k + 1, a + d.1, b + d.2), by simp, ⟨by show k + 1 ≤ l.length; omega, by dsimp only; omega, by dsimp only; omega, ?_⟩, by dsimp only; omega⟩, fun h2 => ⟨by omega, (k + 1, a, b), by simp, ⟨by show k + 1 ≤ l.length; omega, by dsimp only; omega, by dsimp only; omega, ?_⟩, by dsimp only; omega⟩⟩
        · rw [i4, hd]
        · have hz : d.1 = 0 ∧ d.2 = 0 := by simpa using h2
          rw [i4, hd]
          simp only [hz.1, hz.2, Int.add_zero]
      · obtain ⟨k, a, b⟩ := y
        obtain ⟨i1, i2, i3, i4⟩ := hy
        dsimp only at *
        have hlt : ¬ k < l.length := by simpa using h
        have e : k = l.length := by omega
        rw [i4, e, List.drop_length]; exact ⟨rfl, rfl⟩
theorem ok42 : Ok Tryz.prog 42 cXBalance := ok_of_wp mixed g67 (by kernel_rfl) (by kernel_rfl) (fun xx => ann0 (annBal xx.1 xx.2.1)) fun xx => wp42 xx.1 xx.2.1
abbrev G68 : Gam := (42, cXBalance) :: G67
theorem g68 : GamOk Tryz.prog G68 := .cons ok42 g67
end Go.Proofs.YtacaadhlobbemaaGreatDoor
namespace Go.Proofs.YtacaadhlobbemaaGreatDoor
open Go.Sx
def cRBalance : Con := { args := [a3, .val false (.list 3 sI)], ress := [Pr], owns := [], pre := fun (x, l, _) => [l.length ≤ 256, ∀ p ∈ l, lossOk x p], spec := fun (x, l, _) => (balGo x l (0, 0), ()) }
abbrev annRBal (x : Int × Int × Int) (l : List Int) : Ann := { X := Nat × Int × Int, σ := fun (k, a, b) => ⟨4, [(2, .one (.ptr 1 0)), (1, .one (.sl 0)), (4, .one (.ptr 2 0)), (5, .one (.ptr 3 0)), (6, .one (.int .i64 k))], [(0, .imm 3 sI l), (1, .box 64 [.int .i64 x.1, .int .i64 x.2.1, .int .i64 x.2.2]), (2, .box 66 [.int .i64 0, .int .i64 0]), (3, .box 66 [.int .i64 a, .int .i64 b])]⟩, inv := fun (k, a, b) => k ≤ l.length ∧ (0 ≤ a ∧ a ≤ 1000 * k) ∧ (0 ≤ b ∧ b ≤ 1000 * k) ∧ balGo x l (0, 0) = balGo x (l.drop k) (a, b), mu := fun (k, _) => l.length - k }
theorem vc49 : ∀ (x : Int × Int × Int) (l : List Int), wpF Tryz.prog G68 (ann0 (annRBal x l)) Tryz.f49 cRBalance (x, l, ()) = (List.length l ≤ (256 : Nat) → (∀ (p : Int), p ∈ l → lossOk x p) → ∃ (x_1 : Nat × Int × Int), ((0 : Int) = (↑x_1.1 : Int) ∧ l = l ∧ x.fst = x.fst ∧ x.snd.fst = x.snd.fst ∧ x.snd.snd = x.snd.snd ∧ (0 : Int) = (0 : Int) ∧ (0 : Int) = (0 : Int) ∧ (0 : Int) = x_1.2.1 ∧ (0 : Int) = x_1.2.2) ∧ (x_1.fst ≤ List.length l ∧ ((0 : Int) ≤ x_1.2.fst ∧ x_1.2.fst ≤ (1000 : Int) * (↑x_1.fst : Int)) ∧ ((0 : Int) ≤ x_1.2.snd ∧ x_1.2.snd ≤ (1000 : Int) * (↑x_1.fst : Int)) ∧ balGo x l ((0 : Int), (0 : Int)) = balGo x (List.drop x_1.fst l) (x_1.2.fst, x_1.2.snd)) ∧ ∀ (x_2 : Nat × Int × Int), x_2.fst ≤ List.length l ∧ ((0 : Int) ≤ x_2.2.fst ∧ x_2.2.fst ≤ (1000 : Int) * (↑x_2.fst : Int)) ∧ ((0 : Int) ≤ x_2.2.snd ∧ x_2.2.snd ≤ (1000 : Int) * (↑x_2.fst : Int)) ∧ balGo x l ((0 : Int), (0 : Int)) = balGo x (List.drop x_2.fst l) (x_2.2.fst, x_2.2.snd) → (decide ((↑x_2.1 : Int) < (↑(List.length l) : Int)) = true → (((0 : Int) ≤ (↑x_2.1 : Int) ∧ (↑x_2.1 : Int) < (↑(List.length l) : Int)) ∧ ((0 : Int) ≤ (↑x_2.1 : Int) ∧ (↑x_2.1 : Int) < (↑(List.length l) : Int)) ∧ lossOk (x.fst, x.snd.fst, x.snd.snd) (List.getD l x_2.1 (0 : Int))) ∧ (((-9223372036854775808 : Int) ≤ x_2.2.1 + (deliveredS (x.fst, x.snd.fst, x.snd.snd) (List.getD l x_2.1 (0 : Int))).fst ∧ x_2.2.1 + (deliveredS (x.fst, x.snd.fst, x.snd.snd) (List.getD l x_2.1 (0 : Int))).fst ≤ (9223372036854775807 : Int)) ∧ (-9223372036854775808 : Int) ≤ x_2.2.2 + (deliveredS (x.fst, x.snd.fst, x.snd.snd) (List.getD l x_2.1 (0 : Int))).snd ∧ x_2.2.2 + (deliveredS (x.fst, x.snd.fst, x.snd.snd) (List.getD l x_2.1 (0 : Int))).snd ≤ (9223372036854775807 : Int)) ∧ ((-9223372036854775808 : Int) ≤ (↑x_2.1 : Int) + (1 : Int) ∧ (↑x_2.1 : Int) + (1 : Int) ≤ (9223372036854775807 : Int)) ∧ ∃ (y : Nat × Int × Int), ((↑x_2.1 : Int) + (1 : Int) = (↑y.1 : Int) ∧ l = l ∧ x.fst = x.fst ∧ x.snd.fst = x.snd.fst ∧ x.snd.snd = x.snd.snd ∧ (0 : Int) = (0 : Int) ∧ (0 : Int) = (0 : Int) ∧ x_2.2.1 + (deliveredS (x.fst, x.snd.fst, x.snd.snd) (List.getD l x_2.1 (0 : Int))).fst = y.2.1 ∧ x_2.2.2 + (deliveredS (x.fst, x.snd.fst, x.snd.snd) (List.getD l x_2.1 (0 : Int))).snd = y.2.2) ∧ (y.fst ≤ List.length l ∧ ((0 : Int) ≤ y.2.fst ∧ y.2.fst ≤ (1000 : Int) * (↑y.fst : Int)) ∧ ((0 : Int) ≤ y.2.snd ∧ y.2.snd ≤ (1000 : Int) * (↑y.fst : Int)) ∧ balGo x l ((0 : Int), (0 : Int)) = balGo x (List.drop y.fst l) (y.2.fst, y.2.snd)) ∧ List.length l - y.fst < List.length l - x_2.fst) ∧ (decide ((↑x_2.1 : Int) < (↑(List.length l) : Int)) = false → (x_2.2.1, x_2.2.2) = balGo x l ((0 : Int), (0 : Int)))) := by
  intros
  kernel_rfl
theorem wp49 (x : Int × Int × Int) (l : List Int) : wpF Tryz.prog G68 (ann0 (annRBal x l)) Tryz.f49 cRBalance (x, l, ()) := by
  refine (vc49 x l).mpr ?_
  intro hlen hok
  refine ⟨(0, 0, 0), by simp, ⟨Nat.zero_le _, by simp, by simp, rfl⟩, fun (y : Nat × Int × Int) hy => ⟨fun h => ?_, fun h => ?_⟩⟩
  · obtain ⟨k, a, b⟩ := y
    obtain ⟨i1, i2, i3, i4⟩ := hy
    dsimp only at *
    have hlt : k < l.length := by simpa using h
    have ho := hok _ (getD_mem (d := 0) hlt)
    have hd := balGo_drop (x := x) (s := (a, b)) hlt
    have hb := deliveredS_bd ho
    have e3 : deliveredS (x.1, x.2.1, x.2.2) (l.getD k 0) = deliveredS x (l.getD k 0) := rfl
    rw [e3]
    generalize deliveredS x (l.getD k 0) = d at *
    refine ⟨⟨by omega, by omega, ho⟩, ⟨by omega, by omega⟩, by omega, (k + 1, a + d.1, b + d.2), by simp, ⟨by show k + 1 ≤ l.length; omega, by dsimp only; omega, by dsimp only; omega, ?_⟩, by dsimp only; omega⟩
    rw [i4, hd]
  · obtain ⟨k, a, b⟩ := y
    obtain ⟨i1, i2, i3, i4⟩ := hy
    dsimp only at *
    have hlt : ¬ k < l.length := by simpa using h
    have e : k = l.length := by omega
    rw [i4, e, List.drop_length]; rfl
theorem ok49 : Ok Tryz.prog 49 cRBalance := ok_of_wp mixed g68 (by kernel_rfl) (by kernel_rfl) (fun xx => ann0 (annRBal xx.1 xx.2.1)) fun xx => wp49 xx.1 xx.2.1
abbrev G69 : Gam := (49, cRBalance) :: G68
theorem g69 : GamOk Tryz.prog G69 := .cons ok49 g68
end Go.Proofs.YtacaadhlobbemaaGreatDoor
namespace Go.Proofs.YtacaadhlobbemaaGreatDoor
open Go.Sx
def shortS (n : Nat) : Bool := decide (n ≤ 10) || (decide (20 ≤ n) && decide (n ≤ 33))
def cShort : Con := { args := [aL 142], ress := [Bo], owns := [], pre := fun _ => [], spec := fun (l, _) => (shortS l.length, ()) }
theorem vc52 : ∀ (l : List (Int × Int)), wpF Tryz.prog G69 (na ()) Tryz.f52 cShort (l, ()) = ((bif decide ((↑(List.length l) : Int) ≤ (10 : Int)) then true else bif decide ((20 : Int) ≤ (↑(List.length l) : Int)) then decide ((↑(List.length l) : Int) ≤ (33 : Int)) else false) = shortS (List.length l)) := by
  intros
  kernel_rfl
theorem wp52 (l : List (Int × Int)) : wpF Tryz.prog G69 (na ()) Tryz.f52 cShort (l, ()) := by
  refine (vc52 l).mpr ?_
  unfold shortS
  generalize l.length = n
  by_cases h1 : n ≤ 10
  · have h1' : (n : Int) ≤ 10 := by omega
    simp [h1, h1']
  · have h1' : ¬ (n : Int) ≤ 10 := by omega
    by_cases h2 : 20 ≤ n
    · have h2' : (20 : Int) ≤ n := by omega
      by_cases h3 : n ≤ 33
      · have h3' : (n : Int) ≤ 33 := by omega
        simp [h1, h1', h2, h2', h3, h3']
      · have h3' : ¬ (n : Int) ≤ 33 := by omega
        simp [h1, h1', h2, h2', h3, h3']
    · have h2' : ¬ (20 : Int) ≤ n := by omega
      simp [h1, h1', h2, h2']
theorem ok52 : Ok Tryz.prog 52 cShort := ok_of_wp mixed g69 (by kernel_rfl) (by kernel_rfl) na fun xx => wp52 xx.1
abbrev G70 : Gam := (52, cShort) :: G69
theorem g70 : GamOk Tryz.prog G70 := .cons ok52 g69
def comGo : List (List (Int × Int)) → Int × Int → Int × Int
  | [], s => s
  | l :: r, s => comGo r (max s.1 (endsS l).1, min s.2 (endsS l).2)
def comS (l : List (List (Int × Int))) : Int × Int := comGo l (endsS (l.getD 0 []))
theorem comGo_drop {l : List (List (Int × Int))} {k : Nat} {s : Int × Int} (h : k < l.length) : comGo (l.drop k) s = comGo (l.drop (k + 1)) (max s.1 (endsS (l.getD k [])).1, min s.2 (endsS (l.getD k [])).2) := by
  have e1 : l.getD k [] = l[k] := by simp [List.getD_eq_getElem?_getD, h]
  rw [List.drop_eq_getElem_cons h, e1]
  rfl
def cCommon : Con := { args := [.val false (.list 30 (.list 176 sPt))], ress := [Pr], owns := [], pre := fun (l, _) => [0 < l.length, l.length ≤ 1000000, ∀ x ∈ l, 0 < x.length ∧ x.length ≤ 1000000], spec := fun (l, _) => (comS l, ()) }
abbrev annCom (l : List (List (Int × Int))) : Ann := { X := Nat × Int × Int, σ := fun (k, a, b) => ⟨3, [(2, .one (.ptr 1 0)), (3, .one (.ptr 2 0)), (11, .one (.sl 0)), (12, .one (.int .i64 l.length)), (13, .one (.int .i64 k))], [(0, .imm 30 (.list 176 sPt) l), (1, .box 66 [.int .i64 0, .int .i64 0]), (2, .box 66 [.int .i64 a, .int .i64 b])]⟩, inv := fun (k, a, b) => k ≤ l.length ∧ comS l = comGo (l.drop k) (a, b), mu := fun (k, _) => l.length - k }
theorem vc118 : ∀ (l : List (List (Int × Int))), wpF Tryz.prog G70 (ann0 (annCom l)) Tryz.f118 cCommon (l, ()) = ((0 : Nat) < List.length l → List.length l ≤ (1000000 : Nat) → (∀ (x : List (Int × Int)), x ∈ l → (0 : Nat) < List.length x ∧ List.length x ≤ (1000000 : Nat)) → (((0 : Int) ≤ (0 : Int) ∧ (0 : Int) < (↑(List.length l) : Int)) ∧ ((0 : Int) ≤ (0 : Int) ∧ (0 : Int) < (↑(List.length l) : Int)) ∧ (0 : Nat) < List.length (List.getD l (0 : Nat) []) ∧ List.length (List.getD l (0 : Nat) []) ≤ (1000000 : Nat)) ∧ ∃ (x : Nat × Int × Int), ((↑(List.length l) : Int) = (↑(List.length l) : Int) ∧ (0 : Int) = (↑x.1 : Int) ∧ l = l ∧ (0 : Int) = (0 : Int) ∧ (0 : Int) = (0 : Int) ∧ (endsS (List.getD l (0 : Nat) [])).fst = x.2.1 ∧ (endsS (List.getD l (0 : Nat) [])).snd = x.2.2) ∧ (x.fst ≤ List.length l ∧ comS l = comGo (List.drop x.fst l) (x.2.fst, x.2.snd)) ∧ ∀ (x : Nat × Int × Int), x.fst ≤ List.length l ∧ comS l = comGo (List.drop x.fst l) (x.2.fst, x.2.snd) → (decide ((↑x.1 : Int) < (↑(List.length l) : Int)) = true → (((0 : Int) ≤ (↑x.1 : Int) ∧ (↑x.1 : Int) < (↑(List.length l) : Int)) ∧ (0 : Int) ≤ (↑x.1 : Int) ∧ (↑x.1 : Int) < (↑(List.length l) : Int)) ∧ ((0 : Nat) < List.length (List.getD l x.1 []) ∧ List.length (List.getD l x.1 []) ≤ (1000000 : Nat)) ∧ ((-9223372036854775808 : Int) ≤ (↑x.1 : Int) + (1 : Int) ∧ (↑x.1 : Int) + (1 : Int) ≤ (9223372036854775807 : Int)) ∧ ∃ (y : Nat × Int × Int), ((↑(List.length l) : Int) = (↑(List.length l) : Int) ∧ (↑x.1 : Int) + (1 : Int) = (↑y.1 : Int) ∧ l = l ∧ (0 : Int) = (0 : Int) ∧ (0 : Int) = (0 : Int) ∧ max x.2.1 (endsS (List.getD l x.1 [])).fst = y.2.1 ∧ min x.2.2 (endsS (List.getD l x.1 [])).snd = y.2.2) ∧ (y.fst ≤ List.length l ∧ comS l = comGo (List.drop y.fst l) (y.2.fst, y.2.snd)) ∧ List.length l - y.fst < List.length l - x.fst) ∧ (decide ((↑x.1 : Int) < (↑(List.length l) : Int)) = false → (x.2.1, x.2.2) = comS l)) := by
  intros
  kernel_rfl
theorem wp118 (l : List (List (Int × Int))) : wpF Tryz.prog G70 (ann0 (annCom l)) Tryz.f118 cCommon (l, ()) := by
  refine (vc118 l).mpr ?_
  intro h0 h1 hl
  have z := hl (l.getD 0 []) (getD_mem h0)
  refine ⟨⟨by omega, by omega, z⟩, (0, (endsS (l.getD 0 [])).1, (endsS (l.getD 0 [])).2), ⟨rfl, rfl, rfl, rfl, rfl, rfl, rfl⟩, ⟨Nat.zero_le _, rfl⟩, fun (y : Nat × Int × Int) hy => ⟨fun h => ?_, fun h => ?_⟩⟩
  · obtain ⟨k, a, b⟩ := y
    obtain ⟨i1, i4⟩ := hy
    dsimp only at i1 i4
    have hlt : k < l.length := by simpa using h
    have z := hl (l.getD k []) (getD_mem hlt)
    have hd := comGo_drop (s := (a, b)) hlt
    refine ⟨⟨⟨by dsimp only; omega, by dsimp only; omega⟩, by dsimp only; omega, by dsimp only; omega⟩, z, ⟨by dsimp only; omega, by dsimp only; omega⟩, (k + 1, max a (endsS (l.getD k [])).1, min b (endsS (l.getD k [])).2), ⟨rfl, by simp, rfl, rfl, rfl, rfl, rfl⟩, ⟨by show k + 1 ≤ l.length; omega, ?_⟩, by dsimp only; omega⟩
    rw [i4, hd]
  · obtain ⟨k, a, b⟩ := y
    obtain ⟨i1, i4⟩ := hy
    dsimp only at *
    have hlt : ¬ k < l.length := by simpa using h
    have e : k = l.length := by omega
    rw [i4, e, List.drop_length]; rfl
theorem ok118 : Ok Tryz.prog 118 cCommon := ok_of_wp mixed g70 (by kernel_rfl) (by kernel_rfl) (fun xx => ann0 (annCom xx.1)) fun xx => wp118 xx.1
abbrev G71 : Gam := (118, cCommon) :: G70
theorem g71 : GamOk Tryz.prog G71 := .cons ok118 g70
end Go.Proofs.YtacaadhlobbemaaGreatDoor
namespace Go.Proofs.YtacaadhlobbemaaGreatDoor
open Go.Sx
def cRCommon : Con := { args := [.val false (.list 22 (.list 132 sPt))], ress := [I, I], owns := [], pre := fun (l, _) => [l.length ≤ 1000000, ∀ x ∈ l, 0 < x.length ∧ x.length ≤ 1000000], spec := fun (l, _) => ((comGo l (0, 1000)).1, (comGo l (0, 1000)).2, ()) }
abbrev annRCom (l : List (List (Int × Int))) : Ann := { X := Nat × Int × Int, σ := fun (k, a, b) => ⟨1, [(0, .one (.sl 0)), (4, .one (.int .i64 a)), (5, .one (.int .i64 b)), (6, .one (.int .i64 k))], [(0, .imm 22 (.list 132 sPt) l)]⟩, inv := fun (k, a, b) => k ≤ l.length ∧ comGo l (0, 1000) = comGo (l.drop k) (a, b), mu := fun (k, _) => l.length - k }
theorem vc76 : ∀ (l : List (List (Int × Int))), wpF Tryz.prog G71 (ann0 (annRCom l)) Tryz.f76 cRCommon (l, ()) = (List.length l ≤ (1000000 : Nat) → (∀ (x : List (Int × Int)), x ∈ l → (0 : Nat) < List.length x ∧ List.length x ≤ (1000000 : Nat)) → ∃ (x : Nat × Int × Int), ((0 : Int) = x.2.1 ∧ (1000 : Int) = x.2.2 ∧ (0 : Int) = (↑x.1 : Int) ∧ l = l) ∧ (x.fst ≤ List.length l ∧ comGo l ((0 : Int), (1000 : Int)) = comGo (List.drop x.fst l) (x.2.fst, x.2.snd)) ∧ ∀ (x : Nat × Int × Int), x.fst ≤ List.length l ∧ comGo l ((0 : Int), (1000 : Int)) = comGo (List.drop x.fst l) (x.2.fst, x.2.snd) → (decide ((↑x.1 : Int) < (↑(List.length l) : Int)) = true → (((0 : Int) ≤ (↑x.1 : Int) ∧ (↑x.1 : Int) < (↑(List.length l) : Int)) ∧ ((0 : Int) ≤ (↑x.1 : Int) ∧ (↑x.1 : Int) < (↑(List.length l) : Int)) ∧ ((0 : Int) ≤ (0 : Int) ∧ (0 : Int) < (↑(List.length (List.getD l x.1 [])) : Int)) ∧ ((0 : Int) ≤ (0 : Int) ∧ (0 : Int) < (↑(List.length (List.getD l x.1 [])) : Int)) ∧ ((0 : Int) ≤ (↑x.1 : Int) ∧ (↑x.1 : Int) < (↑(List.length l) : Int)) ∧ ((0 : Int) ≤ (↑x.1 : Int) ∧ (↑x.1 : Int) < (↑(List.length l) : Int)) ∧ ((0 : Int) ≤ (↑x.1 : Int) ∧ (↑x.1 : Int) < (↑(List.length l) : Int)) ∧ ((0 : Int) ≤ (↑x.1 : Int) ∧ (↑x.1 : Int) < (↑(List.length l) : Int)) ∧ ((-9223372036854775808 : Int) ≤ (↑(List.length (List.getD l x.1 [])) : Int) - (1 : Int) ∧ (↑(List.length (List.getD l x.1 [])) : Int) - (1 : Int) ≤ (9223372036854775807 : Int)) ∧ ((0 : Int) ≤ (↑(List.length (List.getD l x.1 [])) : Int) - (1 : Int) ∧ (↑(List.length (List.getD l x.1 [])) : Int) - (1 : Int) < (↑(List.length (List.getD l x.1 [])) : Int)) ∧ (0 : Int) ≤ (↑(List.length (List.getD l x.1 [])) : Int) - (1 : Int) ∧ (↑(List.length (List.getD l x.1 [])) : Int) - (1 : Int) < (↑(List.length (List.getD l x.1 [])) : Int)) ∧ ((-9223372036854775808 : Int) ≤ (↑x.1 : Int) + (1 : Int) ∧ (↑x.1 : Int) + (1 : Int) ≤ (9223372036854775807 : Int)) ∧ ∃ (y : Nat × Int × Int), (max x.2.1 (List.getD (List.getD l x.1 []) (0 : Nat) ((0 : Int), (0 : Int))).fst = y.2.1 ∧ min x.2.2 (List.getD (List.getD l x.1 []) (Int.toNat ((↑(List.length (List.getD l x.1 [])) : Int) - (1 : Int))) ((0 : Int), (0 : Int))).fst = y.2.2 ∧ (↑x.1 : Int) + (1 : Int) = (↑y.1 : Int) ∧ l = l) ∧ (y.fst ≤ List.length l ∧ comGo l ((0 : Int), (1000 : Int)) = comGo (List.drop y.fst l) (y.2.fst, y.2.snd)) ∧ List.length l - y.fst < List.length l - x.fst) ∧ (decide ((↑x.1 : Int) < (↑(List.length l) : Int)) = false → x.2.1 = (comGo l ((0 : Int), (1000 : Int))).fst ∧ x.2.2 = (comGo l ((0 : Int), (1000 : Int))).snd)) := by
  intros
  kernel_rfl
theorem wp76 (l : List (List (Int × Int))) : wpF Tryz.prog G71 (ann0 (annRCom l)) Tryz.f76 cRCommon (l, ()) := by
  refine (vc76 l).mpr ?_
  intro h1 hl
  refine ⟨(0, 0, 1000), ⟨rfl, rfl, rfl, rfl⟩, ⟨Nat.zero_le _, rfl⟩, fun (y : Nat × Int × Int) hy => ⟨fun h => ?_, fun h => ?_⟩⟩
  · obtain ⟨k, a, b⟩ := y
    obtain ⟨i1, i4⟩ := hy
    dsimp only at i1 i4 ⊢
    have hlt : k < l.length := by simpa using h
    have z := hl (l.getD k []) (getD_mem hlt)
    have hd := comGo_drop (s := (a, b)) hlt
    have ek : (((l.getD k []).length : Int) - 1).toNat = (l.getD k []).length - 1 := by omega
    rw [ek]
    refine ⟨⟨by omega, by omega, by omega, by omega, by omega, by omega, by omega, by omega, by omega, by omega, by omega⟩, by omega, (k + 1, max a (endsS (l.getD k [])).1, min b (endsS (l.getD k [])).2), ⟨rfl, rfl, by simp, rfl⟩, ⟨by show k + 1 ≤ l.length; omega, ?_⟩, by dsimp only; omega⟩
    rw [i4, hd]
  · obtain ⟨k, a, b⟩ := y
    obtain ⟨i1, i4⟩ := hy
    dsimp only at *
    have hlt : ¬ k < l.length := by simpa using h
    have e : k = l.length := by omega
    rw [i4, e, List.drop_length]; exact ⟨rfl, rfl⟩
theorem ok76 : Ok Tryz.prog 76 cRCommon := ok_of_wp mixed g71 (by kernel_rfl) (by kernel_rfl) (fun xx => ann0 (annRCom xx.1)) fun xx => wp76 xx.1
abbrev G72 : Gam := (76, cRCommon) :: G71
theorem g72 : GamOk Tryz.prog G72 := .cons ok76 g71
end Go.Proofs.YtacaadhlobbemaaGreatDoor
namespace Go.Proofs.YtacaadhlobbemaaGreatDoor
open Go.Sx
def linesE (l : List (List (Int × Int))) : Int := firstS [bif ((l.length : Int) == 0) then 12 else 0, bif decide (3 < (l.length : Int)) then 5 else 0, firstS (l.map lineS)]
def linesS (l : List (List (Int × Int))) : Int := if linesE l ≠ 0 then linesE l else bif decide ((comS l).2 < (comS l).1) then 7 else 0
def cCheckLines : Con := { args := [.val false (.list 30 (.list 176 sPt))], ress := [I], owns := [], pre := fun (l, _) => [l.length ≤ 1000000], spec := fun (l, _) => (linesS l, ()) }
theorem firstS_all : ∀ {l : List Int}, firstS l = 0 → ∀ x ∈ l, x = 0
  | [], _, x, hx => by simp at hx
  | y :: l, h, x, hx => by
    rw [firstS_zero] at h
    rcases List.mem_cons.1 hx with rfl | hx
    · exact h.1
    · exact firstS_all h.2 x hx
theorem linesE_zero {l : List (List (Int × Int))} (h : linesE l = 0) : 0 < l.length ∧ ∀ x ∈ l, lineS x = 0 := by
  unfold linesE at h
  rw [firstS_zero, firstS_zero, firstS_zero] at h
  obtain ⟨h1, _, h3, _⟩ := h
  refine ⟨?_, fun x hx => firstS_all h3 _ (List.mem_map.2 ⟨x, hx, rfl⟩)⟩
  rcases Nat.eq_zero_or_pos l.length with h0 | h0
  · simp [h0] at h1
  · exact h0
theorem vc37 : ∀ (l : List (List (Int × Int))), wpF Tryz.prog G72 (na ()) Tryz.f37 cCheckLines (l, ()) = (List.length l ≤ (1000000 : Nat) → (List.length l ≤ (1000000 : Nat) ∧ (∀ (x : List (Int × Int)), x ∈ l → True) ∧ List.length (List.map (fun (x : List (Int × Int)) => lineS x) l) ≤ (1000000 : Nat) ∧ (3 : Nat) ≤ (1000000 : Nat)) ∧ ((firstS [bif (↑(List.length l) : Int) == (0 : Int) then (12 : Int) else (0 : Int), bif decide ((3 : Int) < (↑(List.length l) : Int)) then (5 : Int) else (0 : Int), firstS (List.map (fun (x : List (Int × Int)) => lineS x) l)] != (0 : Int)) = true → firstS [bif (↑(List.length l) : Int) == (0 : Int) then (12 : Int) else (0 : Int), bif decide ((3 : Int) < (↑(List.length l) : Int)) then (5 : Int) else (0 : Int), firstS (List.map (fun (x : List (Int × Int)) => lineS x) l)] = linesS l) ∧ ((firstS [bif (↑(List.length l) : Int) == (0 : Int) then (12 : Int) else (0 : Int), bif decide ((3 : Int) < (↑(List.length l) : Int)) then (5 : Int) else (0 : Int), firstS (List.map (fun (x : List (Int × Int)) => lineS x) l)] != (0 : Int)) = false → ((0 : Nat) < List.length l ∧ List.length l ≤ (1000000 : Nat) ∧ ∀ (x : List (Int × Int)), x ∈ l → (0 : Nat) < List.length x ∧ List.length x ≤ (1000000 : Nat)) ∧ (bif decide ((comS l).snd < (comS l).fst) then (7 : Int) else (0 : Int)) = linesS l)) := by
  intros
  kernel_rfl
theorem wp37 (l : List (List (Int × Int))) : wpF Tryz.prog G72 (na ()) Tryz.f37 cCheckLines (l, ()) := by
  refine (vc37 l).mpr ?_
  intro hb
  change _ ∧ ((linesE l != 0) = true → linesE l = linesS l) ∧ ((linesE l != 0) = false → _)
  refine ⟨⟨hb, fun _ _ => trivial, by simpa using hb, by omega⟩, fun h => ?_, fun h => ?_⟩
  · have h0 : linesE l ≠ 0 := by simpa using h
    rw [linesS, if_pos h0]
  · have h0 : linesE l = 0 := by simpa using h
    have hz := linesE_zero h0
    refine ⟨⟨hz.1, hb, fun x hx => ?_⟩, by rw [linesS, if_neg (by simp [h0])]⟩
    have ho := (line_ok (hz.2 x hx)).1
    exact ⟨by have := ho.1; omega, by have := ho.2.1; omega⟩
theorem ok37 : Ok Tryz.prog 37 cCheckLines := ok_of_wp mixed g72 (by kernel_rfl) (by kernel_rfl) na fun xx => wp37 xx.1
abbrev G73 : Gam := (37, cCheckLines) :: G72
theorem g73 : GamOk Tryz.prog G73 := .cons ok37 g72
end Go.Proofs.YtacaadhlobbemaaGreatDoor
namespace Go.Proofs.YtacaadhlobbemaaGreatDoor
open Go.Sx
theorem comGo_from {l : List (List (Int × Int))} (h : 0 < l.length) (h1 : ∀ x ∈ l, lineS x = 0) : comGo l (0, 1000) = comS l := by
  cases l with
  | nil => simp at h
  | cons x r =>
    obtain ⟨ho, hg⟩ := line_ok (h1 x (by simp))
    have b1 := (line_at hg (k := 0) (by have := ho.1; omega)).1
    have b2 := (line_at hg (k := x.length - 1) (by have := ho.1; omega)).1
    have e1 : max (0 : Int) (endsS x).1 = (endsS x).1 := by simp only [endsS]; omega
    have e2 : min (1000 : Int) (endsS x).2 = (endsS x).2 := by simp only [endsS]; omega
    have e3 : max (endsS x).1 (endsS x).1 = (endsS x).1 := by omega
    have e4 : min (endsS x).2 (endsS x).2 = (endsS x).2 := by omega
    simp only [comS, List.getD_cons_zero, comGo, e1, e2, e3, e4]
abbrev annRLines (l : List (List (Int × Int))) : Ann := { X := Nat, σ := fun k => ⟨1, [(0, .one (.sl 0)), (3, .one (.int .i64 k))], [(0, .imm 22 (.list 132 sPt) l)]⟩, inv := fun k => k ≤ l.length ∧ 0 < l.length ∧ l.length ≤ 3 ∧ (∀ j, j < k → lineS (l.getD j []) = 0) ∧ firstS (l.map lineS) = firstS ((l.drop k).map lineS), mu := fun k => l.length - k }
def cRCheckLines : Con := { args := [.val false (.list 22 (.list 132 sPt))], ress := [I], owns := [], pre := fun (l, _) => [l.length ≤ 1000000], spec := fun (l, _) => (linesS l, ()) }
theorem vc33 : ∀ (l : List (List (Int × Int))), wpF Tryz.prog G73 (ann0 (annRLines l)) Tryz.f33 cRCheckLines (l, ()) = (List.length l ≤ (1000000 : Nat) → (((↑(List.length l) : Int) == (0 : Int)) = true → (12 : Int) = linesS l) ∧ (((↑(List.length l) : Int) == (0 : Int)) = false → (decide ((3 : Int) < (↑(List.length l) : Int)) = true → (5 : Int) = linesS l) ∧ (decide ((3 : Int) < (↑(List.length l) : Int)) = false → ∃ (x : Nat), ((0 : Int) = (↑x : Int) ∧ l = l) ∧ (x ≤ List.length l ∧ (0 : Nat) < List.length l ∧ List.length l ≤ (3 : Nat) ∧ (∀ (j : Nat), j < x → lineS (List.getD l j []) = (0 : Int)) ∧ firstS (List.map lineS l) = firstS (List.map lineS (List.drop x l))) ∧ ∀ (x : Nat), x ≤ List.length l ∧ (0 : Nat) < List.length l ∧ List.length l ≤ (3 : Nat) ∧ (∀ (j : Nat), j < x → lineS (List.getD l j []) = (0 : Int)) ∧ firstS (List.map lineS l) = firstS (List.map lineS (List.drop x l)) → (decide ((↑x : Int) < (↑(List.length l) : Int)) = true → (((0 : Int) ≤ (↑x : Int) ∧ (↑x : Int) < (↑(List.length l) : Int)) ∧ (0 : Int) ≤ (↑x : Int) ∧ (↑x : Int) < (↑(List.length l) : Int)) ∧ ((lineS (List.getD l x []) != (0 : Int)) = true → lineS (List.getD l x []) = linesS l) ∧ ((lineS (List.getD l x []) != (0 : Int)) = false → ((-9223372036854775808 : Int) ≤ (↑x : Int) + (1 : Int) ∧ (↑x : Int) + (1 : Int) ≤ (9223372036854775807 : Int)) ∧ ∃ (y : Nat), ((↑x : Int) + (1 : Int) = (↑y : Int) ∧ l = l) ∧ (y ≤ List.length l ∧ (0 : Nat) < List.length l ∧ List.length l ≤ (3 : Nat) ∧ (∀ (j : Nat), j < y → lineS (List.getD l j []) = (0 : Int)) ∧ firstS (List.map lineS l) = firstS (List.map lineS (List.drop y l))) ∧ List.length l - y < List.length l - x)) ∧ (decide ((↑x : Int) < (↑(List.length l) : Int)) = false → (List.length l ≤ (1000000 : Nat) ∧ ∀ (x : List (Int × Int)), x ∈ l → (0 : Nat) < List.length x ∧ List.length x ≤ (1000000 : Nat)) ∧ (decide ((comGo l ((0 : Int), (1000 : Int))).snd < (comGo l ((0 : Int), (1000 : Int))).fst) = true → (7 : Int) = linesS l) ∧ (decide ((comGo l ((0 : Int), (1000 : Int))).snd < (comGo l ((0 : Int), (1000 : Int))).fst) = false → (0 : Int) = linesS l))))) := by
  intros
  kernel_rfl
theorem wp33 (l : List (List (Int × Int))) : wpF Tryz.prog G73 (ann0 (annRLines l)) Tryz.f33 cRCheckLines (l, ()) := by
  refine (vc33 l).mpr ?_
  intro hb
  have hE : linesE l = if l.length = 0 then 12 else if 3 < l.length then 5 else firstS (l.map lineS) := by
    unfold linesE
    by_cases h1 : l.length = 0
    · simp [h1, firstS]
    · have h1' : ¬ (l.length : Int) = 0 := by omega
      by_cases h2 : 3 < l.length
      · have h2' : (3 : Int) < l.length := by omega
        have hq : ((l.length : Int) == 0) = false := beq_eq_false_iff_ne.2 h1'
        simp [h1, hq, h2, h2', firstS]
      · have h2' : ¬ (3 : Int) < l.length := by omega
        simp only [firstS, h1, h2, h2', show ((l.length : Int) == 0) = false from beq_eq_false_iff_ne.2 h1', decide_false, cond_false, if_true, if_false]
        split <;> simp_all
  refine ⟨fun h => ?_, fun h => ⟨fun h' => ?_, fun h' => ?_⟩⟩
  · have h1 : l.length = 0 := by have : (l.length : Int) = 0 := by simpa using h
                                 omega
    simp [linesS, hE, h1]
  · have h1 : ¬ l.length = 0 := by intro e; simp [e] at h
    have h2 : 3 < l.length := by have : 3 < (l.length : Int) := by simpa using h'
                                 omega
    simp [linesS, hE, h1, h2]
  · have h1 : ¬ l.length = 0 := by intro e; simp [e] at h
    have h2 : ¬ 3 < l.length := by have : ¬ 3 < (l.length : Int) := by simpa using h'
                                   omega
    rw [if_neg h1, if_neg h2] at hE
    refine ⟨(0 : Nat), ⟨rfl, rfl⟩, ⟨Nat.zero_le _, by omega, by omega, fun j hj => by omega, rfl⟩, fun (k : Nat) hk => ⟨fun h => ?_, fun h => ?_⟩⟩
    · have hlt : k < l.length := by simpa using h
      obtain ⟨i1, i2, i3, i4, i5⟩ := hk
      have hd : firstS ((l.drop k).map lineS) = if lineS (l.getD k []) = 0 then firstS ((l.drop (k + 1)).map lineS) else lineS (l.getD k []) := by
        have e1 : l.getD k [] = l[k] := by simp [List.getD_eq_getElem?_getD, hlt]
        rw [List.drop_eq_getElem_cons hlt, List.map_cons, e1]
        rfl
      refine ⟨by omega, fun h3 => ?_, fun h3 => ⟨by omega, (k + 1 : Nat), ⟨by simp, rfl⟩, ⟨by omega, i2, i3, fun j hj => ?_, ?_⟩, by omega⟩⟩
      · have h3' : ¬ lineS (l.getD k []) = 0 := bne_iff_ne.1 h3
        have hL : linesE l = lineS (l.getD k []) := by rw [hE, i5, hd, if_neg h3']
        show lineS (l.getD k []) = _
        rw [linesS, if_pos (by rw [hL]; exact h3'), hL]
      · have h3' : lineS (l.getD k []) = 0 := bne_eq_false_iff_eq.1 h3
        rcases Nat.lt_or_ge j k with h4 | h4
        · exact i4 j h4
        · have : j = k := by omega
          rw [this]; exact h3'
      · have h3' : lineS (l.getD k []) = 0 := bne_eq_false_iff_eq.1 h3
        rw [i5, hd, if_pos h3']
    · have hlt : ¬ k < l.length := by simpa using h
      obtain ⟨i1, i2, i3, i4, i5⟩ := hk
      have e : k = l.length := by omega
      rw [e, List.drop_length] at i5
      have h0 : linesE l = 0 := by rw [hE, i5]; rfl
      have hz := linesE_zero h0
      rw [comGo_from hz.1 hz.2, linesS, if_neg (by simp [h0])]
      refine ⟨⟨hb, fun x hx => ?_⟩, fun h5 => by rw [h5]; rfl, fun h5 => by rw [h5]; rfl⟩
      have ho := (line_ok (hz.2 x hx)).1
      exact ⟨by have := ho.1; omega, by have := ho.2.1; omega⟩
theorem ok33 : Ok Tryz.prog 33 cRCheckLines := ok_of_wp mixed g73 (by kernel_rfl) (by kernel_rfl) (fun xx => ann0 (annRLines xx.1)) fun xx => wp33 xx.1
abbrev G74 : Gam := (33, cRCheckLines) :: G73
theorem g74 : GamOk Tryz.prog G74 := .cons ok33 g73
end Go.Proofs.YtacaadhlobbemaaGreatDoor
namespace Go.Proofs.YtacaadhlobbemaaGreatDoor
open Go.Sx
theorem lowest_ok {n d K : Int} (h : 0 < d) (hn : -(K * d) ≤ n ∧ n ≤ K * d) : 0 < (lowestS n d).2 ∧ (lowestS n d).2 ∣ d ∧ -(K * (lowestS n d).2) ≤ (lowestS n d).1 ∧ (lowestS n d).1 ≤ K * (lowestS n d).2 := by
  have hg := gcdS_pos (n := n) h
  have e1 : n.tdiv (gcdS n d) * gcdS n d = n := Int.tdiv_mul_cancel (Int.gcd_dvd_left n d)
  have e2 : d.tdiv (gcdS n d) * gcdS n d = d := Int.tdiv_mul_cancel (Int.gcd_dvd_right n d)
  have hp := tdiv_gcd_pos (n := n) h
  simp only [lowestS]
  generalize gcdS n d = g at *
  generalize n.tdiv g = q at *
  generalize d.tdiv g = e at *
  refine ⟨hp, ⟨g, e2.symm⟩, ?_, ?_⟩
  · refine Int.le_of_mul_le_mul_right (a := g) ?_ hg
    rw [e1, Int.neg_mul, Int.mul_assoc, e2]; exact hn.1
  · refine Int.le_of_mul_le_mul_right (a := g) ?_ hg
    rw [e1, Int.mul_assoc, e2]; exact hn.2
theorem lcm_nat (m n : Nat) (hm : 0 < m) : (m : Int).tdiv (gcdS m n) * n = (Nat.lcm m n : Nat) := by
  have hg : gcdS (m : Int) (n : Int) = (Nat.gcd m n : Nat) := rfl
  rw [hg, ← Int.ofNat_tdiv, ← Int.natCast_mul]
  congr 1
  have hp := Nat.gcd_pos_of_pos_left n hm
  refine Nat.eq_of_mul_eq_mul_right hp ?_
  rw [Nat.mul_comm (Nat.lcm m n), Nat.gcd_mul_lcm, Nat.mul_right_comm, Nat.div_mul_cancel (Nat.gcd_dvd_left m n)]
theorem lcmS_dvd {x y : Int × Int} {D : Int} (hx : 0 < x.2) (hy : 0 < y.2) (h1 : x.2 ∣ D) (h2 : y.2 ∣ D) : lcmS x y ∣ D := by
  obtain ⟨x1, x2⟩ := x
  obtain ⟨y1, y2⟩ := y
  dsimp only at *
  obtain ⟨m, rfl⟩ := Int.eq_ofNat_of_zero_le (Int.le_of_lt hx)
  obtain ⟨n, rfl⟩ := Int.eq_ofNat_of_zero_le (Int.le_of_lt hy)
  have : lcmS (x1, (m : Int)) (y1, (n : Int)) = (Nat.lcm m n : Nat) := lcm_nat m n (by omega)
  rw [this]
  rw [Int.ofNat_dvd_left] at *
  exact Nat.lcm_dvd h1 h2
theorem lcmS_pos {x y : Int × Int} (hx : 0 < x.2) (hy : 0 < y.2) : 0 < lcmS x y := by
  have px : 0 < x.2.tdiv (gcdS x.2 y.2) := by
    have := tdiv_gcd_pos (n := y.2) hx
    rwa [show gcdS y.2 x.2 = gcdS x.2 y.2 from by unfold gcdS; rw [Int.gcd_comm]] at this
  exact Int.mul_pos px hy
theorem plus_parts {x y : Int × Int} (hx : 0 < x.2) (hy : 0 < y.2) : ∃ p q : Int, 0 < p ∧ 0 < q ∧ x.2 * q = lcmS x y ∧ y.2 * p = lcmS x y ∧ plusS x y = lowestS (x.1 * q + y.1 * p) (lcmS x y) := by
  refine ⟨x.2.tdiv (gcdS x.2 y.2), y.2.tdiv (gcdS x.2 y.2), ?_, tdiv_gcd_pos hy, ?_, ?_, rfl⟩
  · have := tdiv_gcd_pos (n := y.2) hx
    rwa [show gcdS y.2 x.2 = gcdS x.2 y.2 from by unfold gcdS; rw [Int.gcd_comm]] at this
  · have ex : x.2.tdiv (gcdS x.2 y.2) * gcdS x.2 y.2 = x.2 := Int.tdiv_mul_cancel (Int.gcd_dvd_left x.2 y.2)
    have ey : y.2.tdiv (gcdS x.2 y.2) * gcdS x.2 y.2 = y.2 := Int.tdiv_mul_cancel (Int.gcd_dvd_right x.2 y.2)
    have : x.2.tdiv (gcdS x.2 y.2) * gcdS x.2 y.2 * y.2.tdiv (gcdS x.2 y.2) = x.2.tdiv (gcdS x.2 y.2) * (y.2.tdiv (gcdS x.2 y.2) * gcdS x.2 y.2) := by rw [Int.mul_assoc, Int.mul_comm (gcdS x.2 y.2)]
    rwa [ex, ey] at this
  · exact Int.mul_comm _ _
theorem plus_ok {x y : Int × Int} {X Y : Int} (hx : 0 < x.2) (hy : 0 < y.2) (bx : -(X * x.2) ≤ x.1 ∧ x.1 ≤ X * x.2) (b2 : -(Y * y.2) ≤ y.1 ∧ y.1 ≤ Y * y.2) :
    0 < (plusS x y).2 ∧ (plusS x y).2 ∣ lcmS x y ∧ -((X + Y) * (plusS x y).2) ≤ (plusS x y).1 ∧ (plusS x y).1 ≤ (X + Y) * (plusS x y).2 := by
  obtain ⟨p, q, hp, hq, e1, e2, e3⟩ := plus_parts hx hy
  rw [e3]
  refine lowest_ok (lcmS_pos hx hy) ?_
  have m1 := mul_rng (Int.le_of_lt hq) bx
  have m2 := mul_rng (Int.le_of_lt hp) b2
  rw [Int.mul_assoc, e1] at m1
  rw [Int.mul_assoc, e2] at m2
  rw [Int.add_mul]
  omega
theorem plus_val {x y : Int × Int} (hx : 0 < x.2) (hy : 0 < y.2) : (plusS x y).1 * (x.2 * y.2) = (x.1 * y.2 + y.1 * x.2) * (plusS x y).2 := by
  obtain ⟨p, q, hp, hq, e1, e2, e3⟩ := plus_parts hx hy
  have hl := lcmS_pos hx hy
  rw [e3]
  have g1 : (lowestS (x.1 * q + y.1 * p) (lcmS x y)).1 * gcdS (x.1 * q + y.1 * p) (lcmS x y) = x.1 * q + y.1 * p := Int.tdiv_mul_cancel (Int.gcd_dvd_left _ _)
  have g2 : (lowestS (x.1 * q + y.1 * p) (lcmS x y)).2 * gcdS (x.1 * q + y.1 * p) (lcmS x y) = lcmS x y := Int.tdiv_mul_cancel (Int.gcd_dvd_right _ _)
  have hg := gcdS_pos (n := x.1 * q + y.1 * p) hl
  generalize (lowestS (x.1 * q + y.1 * p) (lcmS x y)).1 = r1 at *
  generalize (lowestS (x.1 * q + y.1 * p) (lcmS x y)).2 = r2 at *
  generalize gcdS (x.1 * q + y.1 * p) (lcmS x y) = g at *
  -- r1 * L = (x1 q + y1 p) * r2
  have k1 : r1 * lcmS x y = (x.1 * q + y.1 * p) * r2 := by
    rw [← g2, ← g1, ← Int.mul_assoc, Int.mul_right_comm r1 r2 g]
  refine Int.eq_of_mul_eq_mul_right (Int.ne_of_gt hq) (Int.eq_of_mul_eq_mul_right (Int.ne_of_gt hp) ?_)
  have c1 : r1 * (x.2 * y.2) * q * p = r1 * lcmS x y * lcmS x y := by
    rw [← e1]
    have : x.2 * q * (x.2 * q) = x.2 * q * (y.2 * p) := by rw [e2, e1]
    rw [Int.mul_assoc r1, Int.mul_assoc r1, Int.mul_assoc r1, this]
    congr 1
    simp [Int.mul_comm, Int.mul_left_comm]
  have c2 : (x.1 * y.2 + y.1 * x.2) * r2 * q * p = (x.1 * q + y.1 * p) * r2 * lcmS x y := by
    have a1 : x.1 * y.2 * r2 * q * p = x.1 * q * r2 * (y.2 * p) := by simp [Int.mul_comm, Int.mul_left_comm]
    have a2 : y.1 * x.2 * r2 * q * p = y.1 * p * r2 * (x.2 * q) := by simp [Int.mul_comm, Int.mul_left_comm]
    rw [Int.add_mul, Int.add_mul, Int.add_mul, a1, a2, e1, e2, Int.add_mul, Int.add_mul]
  rw [c1, c2, k1]
theorem idxS_min {α : Type} {f : α → Bool} {d : α} : ∀ {l : List α} {k : Nat} {i : Int}, idxS f l k = i → ∀ j, j < l.length → (i = -1 ∨ ((k + j : Nat) : Int) < i) → f (l.getD j d) = false
  | [], _, _, _, j, h, _ => by simp at h
  | x :: l, k, i, h, j, hj, hi => by
    simp only [idxS] at h
    split at h
    · subst h; omega
    · rename_i hf
      cases j with
      | zero => simpa using hf
      | succ j =>
        have h' : idxS f l ((k + 1 : Nat) : Int) = i := by simpa using h
        have := idxS_min (d := d) h' j (by simpa using hj) (by rcases hi with hi | hi <;> omega)
        simpa using this
theorem idxS_eq {α : Type} {f : α → Bool} {d : α} : ∀ {l : List α} {k j : Nat}, j < l.length → f (l.getD j d) = true → (∀ i, i < j → f (l.getD i d) = false) → idxS f l k = ((k + j : Nat) : Int)
  | [], _, j, h, _, _ => by simp at h
  | x :: l, k, 0, _, hf, _ => by
    have : f x = true := by simpa using hf
    simp [idxS, this]
  | x :: l, k, j + 1, h, hf, hm => by
    have h0 : f x = false := by simpa using hm 0 (by omega)
    have ih := idxS_eq (d := d) (l := l) (k := k + 1) (j := j) (by simpa using h) (by simpa using hf) fun i hi => by simpa using hm (i + 1) (by omega)
    simp only [idxS, h0]
    rw [if_neg (by simp)]
    rw [show ((k : Int) + 1) = ((k + 1 : Nat) : Int) by omega, ih]
    omega
theorem idxS_none {α : Type} {f : α → Bool} {d : α} : ∀ {l : List α} {k : Nat}, (∀ i, i < l.length → f (l.getD i d) = false) → idxS f l k = -1
  | [], _, _ => rfl
  | x :: l, k, h => by
    have h0 : f x = false := by simpa using h 0 (by simp)
    simp only [idxS, h0]
    rw [if_neg (by simp), show ((k : Int) + 1) = ((k + 1 : Nat) : Int) by omega]
    exact idxS_none (d := d) fun i hi => by simpa using h (i + 1) (by simpa using hi)
def inS (x : List (Int × Int)) (v : Int) : Prop := (x.getD 0 (0, 0)).1 ≤ v ∧ v ≤ (x.getD (x.length - 1) (0, 0)).1
theorem piece_at {x : List (Int × Int)} {v : Int} (h : lineS x = 0) (hv : inS x v) : ∃ j : Nat, 1 ≤ j ∧ j < x.length ∧ pieceS x v = j - 1 ∧ (x.getD (j - 1) (0, 0)).1 ≤ v ∧ v ≤ (x.getD j (0, 0)).1 ∧
    (v < (x.getD j (0, 0)).1 → ∀ i, i < j → (x.getD i (0, 0)).1 ≤ v) ∧ (v = (x.getD j (0, 0)).1 → j = x.length - 1) := by
  obtain ⟨ho, hg⟩ := line_ok h
  have hl := ho.1
  have hb := idxS_bd (f := fun p : Int × Int => decide (v < p.1)) (l := x) (k := 0)
  have hm := fun i => idxS_min (d := ((0 : Int), (0 : Int))) (f := fun p : Int × Int => decide (v < p.1)) (l := x) (k := 0) (i := i)
  have hsp := fun i => idxS_spec (d := ((0 : Int), (0 : Int))) (f := fun p : Int × Int => decide (v < p.1)) (l := x) (k := 0) (i := i)
  unfold pieceS
  generalize hi : idxS (fun p : Int × Int => decide (v < p.1)) x 0 = i at *
  change i = -1 ∨ (0 : Int) ≤ i ∧ i < 0 + (x.length : Int) at hb
  replace hm := hm i rfl
  replace hsp := hsp i rfl
  simp only
  obtain ⟨v1, v2⟩ := hv
  rcases hb with hb | hb
  · have h1 := hm (x.length - 2) (by omega) (.inl hb)
    have h2 := hm (x.length - 1) (by omega) (.inl hb)
    have h1 : (x.getD (x.length - 2) (0, 0)).1 ≤ v := by simpa using h1
    have h2 : (x.getD (x.length - 1) (0, 0)).1 ≤ v := by simpa using h2
    refine ⟨x.length - 1, by omega, by omega, by rw [if_pos (by omega)]; omega, ?_, v2, fun h3 => by omega, fun _ => rfl⟩
    rw [show x.length - 1 - 1 = x.length - 2 by omega]; exact h1
  · have h1 := hsp hb.1
    have h1 : v < (x.getD i.toNat (0, 0)).1 := by simpa using h1
    have hne : i.toNat ≠ 0 := by intro e; rw [e] at h1; omega
    have hall : ∀ k, k < i.toNat → (x.getD k (0, 0)).1 ≤ v := fun k hk => by
      have := hm k (by omega) (.inr (by omega))
      simpa using this
    refine ⟨i.toNat, by omega, by omega, by rw [if_neg (by omega)]; omega, hall _ (by omega), by omega, fun _ => hall, fun h3 => by omega⟩
def segD (x : List (Int × Int)) (v : Int) : Int := (gP x (pieceS x v + 1)).1 - (gP x (pieceS x v)).1
theorem lowest_one {k n : Int} (h : 0 < n) : (lowestS (k * n) n).2 = 1 := by
  have : gcdS (k * n) n = n := by
    have h1 : Int.gcd (k * n) n = n.natAbs := by simp [Int.gcd, Int.natAbs_mul]
    unfold gcdS
    rw [h1]
    omega
  simp only [lowestS, this]
  exact Int.tdiv_self (by omega)
theorem atS_ok {x : List (Int × Int)} {v : Int} (h : lineS x = 0) (hv : inS x v) : (1 ≤ segD x v ∧ segD x v ≤ 1000) ∧ 0 < (atS x v).2 ∧ (atS x v).2 ∣ segD x v ∧ -(1000 * (atS x v).2) ≤ (atS x v).1 ∧ (atS x v).1 ≤ 1000 * (atS x v).2 := by
  obtain ⟨ho, hg⟩ := line_ok h
  obtain ⟨j, j1, j2, j3, j4, j5, _, _⟩ := piece_at h hv
  have a0 := (line_at hg (k := j - 1) (by omega)).1
  have b0 := line_at hg (k := j) j2
  have b1 := (b0.2 (by omega)).1
  have b0 := b0.1
  have eA : gP x (pieceS x v) = x.getD (j - 1) (0, 0) := by unfold gP; rw [j3]; congr 1; omega
  have eB : gP x (pieceS x v + 1) = x.getD j (0, 0) := by unfold gP; rw [j3]; congr 1; omega
  simp only [segD, atS, eA, eB]
  generalize x.getD (j - 1) (0, 0) = a at *
  generalize x.getD j (0, 0) = b at *
  refine ⟨by omega, ?_⟩
  cases hbv : b.1 == v with
  | true => exact ⟨by simp, by simp, by simp; omega, by simp; omega⟩
  | false =>
    simp only [cond_false]
    refine lowest_ok (by omega) ?_
    have e : a.2 * (b.1 - a.1) + (b.2 - a.2) * (v - a.1) = a.2 * (b.1 - v) + b.2 * (v - a.1) := by
      rw [show b.1 - a.1 = (b.1 - v) + (v - a.1) by omega, Int.mul_add, Int.sub_mul]; omega
    rw [e]
    have m1 := mul_rng (a := a.2) (q := b.1 - v) (B := 1000) (by omega) ⟨by omega, by omega⟩
    have m2 := mul_rng (a := b.2) (q := v - a.1) (B := 1000) (by omega) ⟨by omega, by omega⟩
    generalize a.2 * (b.1 - v) = u1 at *
    generalize b.2 * (v - a.1) = u2 at *
    omega
theorem atS_next {x : List (Int × Int)} {v : Int} (h : lineS x = 0) (hv : inS x v) (hv' : inS x (v + 1)) : (atS x (v + 1)).2 ∣ segD x v := by
  obtain ⟨ho, hg⟩ := line_ok h
  obtain ⟨j, j1, j2, j3, j4, j5, j6, j7⟩ := piece_at h hv
  have hlt : v < (x.getD j (0, 0)).1 := by
    rcases Int.lt_or_le v (x.getD j (0, 0)).1 with h1 | h1
    · exact h1
    · have := j7 (by omega)
      subst this
      have := hv'.2
      omega
  have hall := j6 hlt
  rcases Int.lt_or_le (v + 1) (x.getD j (0, 0)).1 with h1 | h1
  · have hidx : pieceS x (v + 1) = pieceS x v := by
      have : idxS (fun p : Int × Int => decide (v + 1 < p.1)) x 0 = ((0 + j : Nat) : Int) := idxS_eq (d := ((0 : Int), (0 : Int))) (k := 0) j2 (decide_eq_true h1) fun i hi => by
        have := hall i hi
        exact decide_eq_false (by show ¬ v + 1 < (x.getD i (0, 0)).1; omega)
      rw [j3]
      simp only [pieceS, this]
      rw [if_neg (by omega)]; omega
    have hs : segD x v = segD x (v + 1) := by simp only [segD, hidx]
    rw [hs]
    exact (atS_ok h hv').2.2.1
  · have e : (x.getD j (0, 0)).1 = v + 1 := by omega
    have : (atS x (v + 1)).2 = 1 := by
      by_cases hlast : j = x.length - 1
      · have hi : idxS (fun p : Int × Int => decide (v + 1 < p.1)) x 0 = -1 := idxS_none (d := ((0 : Int), (0 : Int))) (k := 0) fun i hi => by
          by_cases hij : i < j
          · have := hall i hij; exact decide_eq_false (by show ¬ v + 1 < (x.getD i (0, 0)).1; omega)
          · have : i = j := by omega
            subst this; exact decide_eq_false (by show ¬ v + 1 < (x.getD i (0, 0)).1; omega)
        have hp : pieceS x (v + 1) = (x.length : Int) - 2 := by simp only [pieceS, hi]; rw [if_pos (by omega)]
        have eB : gP x (pieceS x (v + 1) + 1) = x.getD j (0, 0) := by unfold gP; rw [hp]; congr 1; omega
        simp only [atS, eB]
        rw [show ((x.getD j (0, 0)).1 == v + 1) = true from beq_iff_eq.2 e]
        rfl
      · have h2 := (line_at hg (k := j + 1) (by omega)).2 (by omega)
        simp only [Nat.add_sub_cancel] at h2
        have hi : idxS (fun p : Int × Int => decide (v + 1 < p.1)) x 0 = ((0 + (j + 1) : Nat) : Int) := idxS_eq (d := ((0 : Int), (0 : Int))) (k := 0) (by omega) (decide_eq_true (by show v + 1 < (x.getD (j + 1) (0, 0)).1; omega)) fun i hi => by
          by_cases hij : i < j
          · have := hall i hij; exact decide_eq_false (by show ¬ v + 1 < (x.getD i (0, 0)).1; omega)
          · have : i = j := by omega
            subst this; exact decide_eq_false (by show ¬ v + 1 < (x.getD i (0, 0)).1; omega)
        have hp : pieceS x (v + 1) = j := by simp only [pieceS, hi]; rw [if_neg (by omega)]; omega
        have eA : gP x (pieceS x (v + 1)) = x.getD j (0, 0) := by unfold gP; rw [hp]; congr 1
        have eB : gP x (pieceS x (v + 1) + 1) = x.getD (j + 1) (0, 0) := by unfold gP; rw [hp]; congr 1
        simp only [atS, eA, eB]
        rw [show ((x.getD (j + 1) (0, 0)).1 == v + 1) = false from beq_eq_false_iff_ne.2 (by omega)]
        simp only [cond_false]
        rw [e, show v + 1 - (v + 1) = 0 by omega, Int.mul_zero, Int.add_zero]
        exact lowest_one (by omega)
    rw [this]
    exact Int.one_dvd _
def sumGo (v : Int) : List (List (Int × Int)) → Int × Int → Int × Int
  | [], s => s
  | x :: r, s => sumGo v r (plusS s (atS x v))
def sumS (l : List (List (Int × Int))) (v : Int) : Int × Int := sumGo v l (0, 1)
def segP (v : Int) : List (List (Int × Int)) → Int
  | [] => 1
  | x :: r => segD x v * segP v r
def ratD (s : Int × Int) (D K : Int) : Prop := 0 < s.2 ∧ s.2 ∣ D ∧ -(K * s.2) ≤ s.1 ∧ s.1 ≤ K * s.2
theorem ratD.ratV {s : Int × Int} {D K : Int} (h : ratD s D K) (hD : 0 < D ∧ D ≤ 281474976710656) (hK : K ≤ 8192) : ratV s := by
  obtain ⟨h1, h2, h3, h4⟩ := h
  have := Int.le_of_dvd hD.1 h2
  have h5 := Int.mul_le_mul_of_nonneg_right hK (Int.le_of_lt h1)
  exact ⟨h1, by omega, by omega, by omega⟩
theorem ratD.lcm {s t : Int × Int} {D K L : Int} (h : ratD s D K) (h' : ratD t D L) (hD : 0 < D) : lcmS s t ≤ D := Int.le_of_dvd hD (lcmS_dvd h.1 h'.1 h.2.1 h'.2.1)
theorem ratD.plus {s t : Int × Int} {D K L : Int} (h : ratD s D K) (h' : ratD t D L) : ratD (plusS s t) D (K + L) := by
  have := plus_ok h.1 h'.1 h.2.2 h'.2.2
  exact ⟨this.1, Int.dvd_trans this.2.1 (lcmS_dvd h.1 h'.1 h.2.1 h'.2.1), this.2.2⟩
theorem ratD.up {s : Int × Int} {D K E : Int} (h : ratD s D K) (hE : D ∣ E) : ratD s E K := ⟨h.1, Int.dvd_trans h.2.1 hE, h.2.2⟩
def sumOk (l : List (List (Int × Int))) (u v : Int) : Prop := ∀ x ∈ l, ratD (atS x u) (segD x v) 1000 ∧ 1 ≤ segD x v ∧ segD x v ≤ 1000
theorem segP_bd {v u : Int} : ∀ {l : List (List (Int × Int))}, sumOk l u v → 0 < segP v l ∧ segP v l ≤ 1000 ^ l.length
  | [], _ => by simp [segP]
  | x :: r, h => by
    have ih := segP_bd (l := r) fun y hy => h y (by simp [hy])
    have hx := (h x (by simp)).2
    simp only [segP, List.length_cons, Int.pow_succ]
    refine ⟨Int.mul_pos (by omega) ih.1, ?_⟩
    rw [Int.mul_comm]
    exact Int.mul_le_mul ih.2 hx.2 (by omega) (by have := Int.pow_pos (n := 1000) (m := r.length) (by decide); omega)
theorem sumGo_ok {u v : Int} : ∀ {l : List (List (Int × Int))} {s : Int × Int} {D K : Int}, sumOk l u v → ratD s D K → ratD (sumGo u l s) (D * segP v l) (K + 1000 * l.length)
  | [], s, D, K, _, h => by simpa [sumGo, segP] using h
  | x :: r, s, D, K, hl, h => by
    have hx := (hl x (by simp)).1
    have h1 : ratD (plusS s (atS x u)) (D * segD x v) (K + 1000) := (h.up (Int.dvd_mul_right _ _)).plus (hx.up (Int.dvd_mul_left _ _))
    have ih := sumGo_ok (l := r) (fun y hy => hl y (by simp [hy])) h1
    simp only [sumGo, segP, List.length_cons]
    rw [show D * (segD x v * segP v r) = D * segD x v * segP v r by rw [Int.mul_assoc], show K + 1000 * ((r.length + 1 : Nat) : Int) = K + 1000 + 1000 * (r.length : Int) by omega]
    exact ih
theorem sumOk_same {l : List (List (Int × Int))} {v : Int} (h : ∀ x ∈ l, lineS x = 0 ∧ inS x v) : sumOk l v v := fun x hx => by
  have := atS_ok (h x hx).1 (h x hx).2
  exact ⟨this.2, this.1⟩
theorem sumOk_next {l : List (List (Int × Int))} {v : Int} (h : ∀ x ∈ l, lineS x = 0 ∧ inS x v ∧ inS x (v + 1)) : sumOk l (v + 1) v := fun x hx => by
  obtain ⟨h1, h2, h3⟩ := h x hx
  have := atS_ok h1 h3
  exact ⟨⟨this.2.1, atS_next h1 h2 h3, this.2.2.2⟩, (atS_ok h1 h2).1⟩
theorem sumS_ok {l : List (List (Int × Int))} {u v : Int} (h : sumOk l u v) : ratD (sumS l u) (segP v l) (1000 * l.length) := by
  have := sumGo_ok (s := ((0 : Int), (1 : Int))) (D := 1) (K := 0) h ⟨by decide, Int.dvd_refl _, by simp, by simp⟩
  simpa [sumS] using this
theorem pow_le3 {k : Nat} (h : k ≤ 3) : (1000 : Int) ^ k ≤ 1000000000 := by
  have : k = 0 ∨ k = 1 ∨ k = 2 ∨ k = 3 := by omega
  rcases this with rfl | rfl | rfl | rfl <;> decide
def sumI (k : Nat) (s : Int × Int) : Prop := ∃ D : Int, 0 < D ∧ D ≤ 1000 ^ k ∧ ratD s D (1000 * k)
theorem sumI_zero : sumI 0 (0, 1) := ⟨1, by decide, by decide, by decide, Int.dvd_refl _, by simp, by simp⟩
theorem sumI_step {k : Nat} {s : Int × Int} {x : List (Int × Int)} {v : Int} (h : sumI k s) (hk : k < 3) (hx : lineS x = 0) (hv : inS x v) :
    ratV s ∧ ratV (atS x v) ∧ lcmS s (atS x v) ≤ 281474976710656 ∧ sumI (k + 1) (plusS s (atS x v)) := by
  obtain ⟨D, d1, d2, d3⟩ := h
  obtain ⟨a1, a2⟩ := atS_ok hx hv
  have a2 : ratD (atS x v) (segD x v) 1000 := a2
  have p1 := pow_le3 (k := k) (by omega)
  have p2 := pow_le3 (k := k + 1) (by omega)
  have hE : 0 < D * segD x v ∧ D * segD x v ≤ 1000 ^ (k + 1) := by
    refine ⟨Int.mul_pos d1 (by omega), ?_⟩
    rw [Int.pow_succ]
    exact Int.mul_le_mul d2 a1.2 (by omega) (by omega)
  have u1 := d3.up (Int.dvd_mul_right D (segD x v))
  have u2 := a2.up (Int.dvd_mul_left D (segD x v))
  refine ⟨d3.ratV ⟨d1, by omega⟩ (by omega), a2.ratV ⟨by omega, by omega⟩ (by decide), ?_, D * segD x v, hE.1, hE.2, ?_⟩
  · have := u1.lcm u2 hE.1
    omega
  · have := u1.plus u2
    rw [show 1000 * ((k + 1 : Nat) : Int) = 1000 * (k : Int) + 1000 by omega]
    exact this
theorem sumGo_drop {v : Int} {l : List (List (Int × Int))} {k : Nat} {s : Int × Int} (h : k < l.length) : sumGo v (l.drop k) s = sumGo v (l.drop (k + 1)) (plusS s (atS (l.getD k []) v)) := by
  have e1 : l.getD k [] = l[k] := by simp [List.getD_eq_getElem?_getD, h]
  rw [List.drop_eq_getElem_cons h, e1]
  rfl
def shortL (l : List (List (Int × Int))) : Bool := l.all (fun x => decide (x.length ≤ 10)) && decide (l.length ≤ 5)
abbrev aLL (T U : TypeId) : AK := .val false (.list T (.list U sPt))
def cShortLines : Con := { args := [aLL 22 132], ress := [Bo], owns := [], pre := fun (l, _) => [l.length ≤ 9223372036854775807], spec := fun (l, _) => (shortL l, ()) }
abbrev annShortL (l : List (List (Int × Int))) : Ann := { X := Nat, σ := fun k => ⟨1, [(0, .one (.sl 0)), (3, .one (.int .i64 k))], [(0, .imm 22 (.list 132 sPt) l)]⟩, inv := fun k => k ≤ l.length ∧ shortL l = ((l.drop k).all (fun x => decide (x.length ≤ 10)) && decide (l.length ≤ 5)), mu := fun k => l.length - k }
theorem vc28 : ∀ (l : List (List (Int × Int))), wpF Tryz.prog G74 (ann0 (annShortL l)) Tryz.f28 cShortLines (l, ()) = (List.length l ≤ (9223372036854775807 : Nat) → ∃ (x : Nat), ((0 : Int) = (↑x : Int) ∧ l = l) ∧ (x ≤ List.length l ∧ shortL l = ((List.all (List.drop x l) fun (x : List (Int × Int)) => decide (List.length x ≤ (10 : Nat))) && decide (List.length l ≤ (5 : Nat)))) ∧ ∀ (x : Nat), x ≤ List.length l ∧ shortL l = ((List.all (List.drop x l) fun (x : List (Int × Int)) => decide (List.length x ≤ (10 : Nat))) && decide (List.length l ≤ (5 : Nat))) → (decide ((↑x : Int) < (↑(List.length l) : Int)) = true → (((0 : Int) ≤ (↑x : Int) ∧ (↑x : Int) < (↑(List.length l) : Int)) ∧ (0 : Int) ≤ (↑x : Int) ∧ (↑x : Int) < (↑(List.length l) : Int)) ∧ (decide ((10 : Int) < (↑(List.length (List.getD l x [])) : Int)) = true → false = shortL l) ∧ (decide ((10 : Int) < (↑(List.length (List.getD l x [])) : Int)) = false → ((-9223372036854775808 : Int) ≤ (↑x : Int) + (1 : Int) ∧ (↑x : Int) + (1 : Int) ≤ (9223372036854775807 : Int)) ∧ ∃ (y : Nat), ((↑x : Int) + (1 : Int) = (↑y : Int) ∧ l = l) ∧ (y ≤ List.length l ∧ shortL l = ((List.all (List.drop y l) fun (x : List (Int × Int)) => decide (List.length x ≤ (10 : Nat))) && decide (List.length l ≤ (5 : Nat)))) ∧ List.length l - y < List.length l - x)) ∧ (decide ((↑x : Int) < (↑(List.length l) : Int)) = false → decide ((↑(List.length l) : Int) ≤ (5 : Int)) = shortL l)) := by
  intros
  kernel_rfl
theorem wp28 (l : List (List (Int × Int))) : wpF Tryz.prog G74 (ann0 (annShortL l)) Tryz.f28 cShortLines (l, ()) := by
  refine (vc28 l).mpr ?_
  intro hb
  refine ⟨(0 : Nat), ⟨rfl, rfl⟩, ⟨Nat.zero_le _, rfl⟩, fun (k : Nat) hk => ⟨fun h => ?_, fun h => ?_⟩⟩
  · have hlt : k < l.length := by simpa using h
    have e1 : l.getD k [] = l[k] := by simp [List.getD_eq_getElem?_getD, hlt]
    have hd : (l.drop k).all (fun x => decide (x.length ≤ 10)) = (decide ((l.getD k []).length ≤ 10) && (l.drop (k + 1)).all (fun x => decide (x.length ≤ 10))) := by
      rw [List.drop_eq_getElem_cons hlt, List.all_cons, e1]
    refine ⟨by omega, fun h1 => ?_, fun h1 => ⟨by omega, (k + 1 : Nat), ⟨by simp, rfl⟩, ⟨by omega, ?_⟩, by omega⟩⟩
    · have h1' : ¬ (l.getD k []).length ≤ 10 := by
        have : (10 : Int) < (l.getD k []).length := by simpa using h1
        omega
      rw [hk.2, hd, decide_eq_false h1']; rfl
    · have h1' : (l.getD k []).length ≤ 10 := by
        have : ¬ (10 : Int) < (l.getD k []).length := by simpa using h1
        omega
      rw [hk.2, hd, decide_eq_true h1', Bool.true_and]
  · have hlt : ¬ k < l.length := by simpa using h
    have e : k = l.length := by omega
    rw [hk.2, e, List.drop_length]
    have : decide ((l.length : Int) ≤ 5) = decide (l.length ≤ 5) := by
      by_cases h5 : l.length ≤ 5
      · have : (l.length : Int) ≤ 5 := by omega
        simp [h5, this]
      · have : ¬ (l.length : Int) ≤ 5 := by omega
        simp [h5, this]
    simpa using this
theorem ok28 : Ok Tryz.prog 28 cShortLines := ok_of_wp mixed g74 (by kernel_rfl) (by kernel_rfl) (fun xx => ann0 (annShortL xx.1)) fun xx => wp28 xx.1
abbrev G75 : Gam := (28, cShortLines) :: G74
theorem g75 : GamOk Tryz.prog G75 := .cons ok28 g74
def cSum : Con := { args := [aLL 30 176, aI], ress := [Pr], owns := [], pre := fun (l, v, _) => [l.length ≤ 3, ∀ x ∈ l, lineS x = 0 ∧ inS x v], spec := fun (l, v, _) => (sumS l v, ()) }
abbrev annSum (l : List (List (Int × Int))) (v : Int) : Ann := { X := Nat × Int × Int, σ := fun (k, a, b) => ⟨3, [(1, .one (.int .i64 v)), (4, .one (.ptr 1 0)), (5, .one (.ptr 2 0)), (9, .one (.sl 0)), (10, .one (.int .i64 l.length)), (11, .one (.int .i64 k))], [(0, .imm 30 (.list 176 sPt) l), (1, .box 25 [.int .i64 0, .int .i64 0]), (2, .box 25 [.int .i64 a, .int .i64 b])]⟩, inv := fun (k, a, b) => k ≤ l.length ∧ sumS l v = sumGo v (l.drop k) (a, b) ∧ sumI k (a, b), mu := fun (k, _) => l.length - k }
theorem line_pre {x : List (Int × Int)} {v : Int} (h : lineS x = 0) (hv : inS x v) : lineOk x ∧ (0 ≤ v ∧ v ≤ 1000) ∧ (0 ≤ pieceS x v ∧ pieceS x v + 1 < x.length) ∧ (gP x (pieceS x v)).1 < (gP x (pieceS x v + 1)).1 := by
  obtain ⟨ho, hg⟩ := line_ok h
  have hl := ho.1
  have b1 := (line_at hg (k := 0) (by omega)).1
  have b2 := (line_at hg (k := x.length - 1) (by omega)).1
  have hp := piece_ok h hv.1
  obtain ⟨v1, v2⟩ := hv
  exact ⟨ho, ⟨by omega, by omega⟩, ⟨hp.1, hp.2.1⟩, hp.2.2⟩
theorem vc156 : ∀ (l : List (List (Int × Int))) (v : Int), wpF Tryz.prog G75 (ann0 (annSum l v)) Tryz.f156 cSum (l, v, ()) = (List.length l ≤ (3 : Nat) → (∀ (x : List (Int × Int)), x ∈ l → lineS x = (0 : Int) ∧ inS x v) → ∃ (x : Nat × Int × Int), (v = v ∧ (↑(List.length l) : Int) = (↑(List.length l) : Int) ∧ (0 : Int) = (↑x.1 : Int) ∧ l = l ∧ (0 : Int) = (0 : Int) ∧ (0 : Int) = (0 : Int) ∧ (0 : Int) = x.2.1 ∧ (1 : Int) = x.2.2) ∧ (x.fst ≤ List.length l ∧ sumS l v = sumGo v (List.drop x.fst l) (x.2.fst, x.2.snd) ∧ sumI x.fst (x.2.fst, x.2.snd)) ∧ ∀ (x : Nat × Int × Int), x.fst ≤ List.length l ∧ sumS l v = sumGo v (List.drop x.fst l) (x.2.fst, x.2.snd) ∧ sumI x.fst (x.2.fst, x.2.snd) → (decide ((↑x.1 : Int) < (↑(List.length l) : Int)) = true → (((0 : Int) ≤ (↑x.1 : Int) ∧ (↑x.1 : Int) < (↑(List.length l) : Int)) ∧ (0 : Int) ≤ (↑x.1 : Int) ∧ (↑x.1 : Int) < (↑(List.length l) : Int)) ∧ (lineOk (List.getD l x.1 []) ∧ ((0 : Int) ≤ v ∧ v ≤ (1000 : Int)) ∧ ((0 : Int) ≤ pieceS (List.getD l x.1 []) v ∧ pieceS (List.getD l x.1 []) v + (1 : Int) < (↑(List.length (List.getD l x.1 [])) : Int)) ∧ (gP (List.getD l x.1 []) (pieceS (List.getD l x.1 []) v)).fst < (gP (List.getD l x.1 []) (pieceS (List.getD l x.1 []) v + (1 : Int))).fst ∧ ratV (x.2.1, x.2.2) ∧ ratV ((atS (List.getD l x.1 []) v).fst, (atS (List.getD l x.1 []) v).snd) ∧ lcmS (x.2.1, x.2.2) ((atS (List.getD l x.1 []) v).fst, (atS (List.getD l x.1 []) v).snd) ≤ (281474976710656 : Int)) ∧ ((-9223372036854775808 : Int) ≤ (↑x.1 : Int) + (1 : Int) ∧ (↑x.1 : Int) + (1 : Int) ≤ (9223372036854775807 : Int)) ∧ ∃ (y : Nat × Int × Int), (v = v ∧ (↑(List.length l) : Int) = (↑(List.length l) : Int) ∧ (↑x.1 : Int) + (1 : Int) = (↑y.1 : Int) ∧ l = l ∧ (0 : Int) = (0 : Int) ∧ (0 : Int) = (0 : Int) ∧ (plusS (x.2.1, x.2.2) ((atS (List.getD l x.1 []) v).fst, (atS (List.getD l x.1 []) v).snd)).fst = y.2.1 ∧ (plusS (x.2.1, x.2.2) ((atS (List.getD l x.1 []) v).fst, (atS (List.getD l x.1 []) v).snd)).snd = y.2.2) ∧ (y.fst ≤ List.length l ∧ sumS l v = sumGo v (List.drop y.fst l) (y.2.fst, y.2.snd) ∧ sumI y.fst (y.2.fst, y.2.snd)) ∧ List.length l - y.fst < List.length l - x.fst) ∧ (decide ((↑x.1 : Int) < (↑(List.length l) : Int)) = false → (x.2.1, x.2.2) = sumS l v)) := by
  intros
  kernel_rfl
theorem wp156 (l : List (List (Int × Int))) (v : Int) : wpF Tryz.prog G75 (ann0 (annSum l v)) Tryz.f156 cSum (l, v, ()) := by
  refine (vc156 l v).mpr ?_
  intro h1 hl
  refine ⟨(0, 0, 1), by simp, ⟨Nat.zero_le _, rfl, sumI_zero⟩, fun (y : Nat × Int × Int) hy => ⟨fun h => ?_, fun h => ?_⟩⟩
  · obtain ⟨k, a, b⟩ := y
    obtain ⟨i1, i4, i5⟩ := hy
    dsimp only at i1 i4 i5 ⊢
    have hlt : k < l.length := by simpa using h
    obtain ⟨z1, z2⟩ := hl (l.getD k []) (getD_mem hlt)
    have hd := sumGo_drop (v := v) (s := (a, b)) hlt
    have hs := sumI_step i5 (by omega) z1 z2
    obtain ⟨q1, q2, q3, q4⟩ := line_pre z1 z2
    refine ⟨by omega, ⟨q1, q2, q3, q4, hs.1, hs.2.1, hs.2.2.1⟩, by omega, (k + 1, (plusS (a, b) (atS (l.getD k []) v)).1, (plusS (a, b) (atS (l.getD k []) v)).2), ⟨rfl, rfl, by simp, rfl, rfl, rfl, rfl, rfl⟩, ⟨by show k + 1 ≤ l.length; omega, ?_, hs.2.2.2⟩, by dsimp only; omega⟩
    rw [i4, hd]
  · obtain ⟨k, a, b⟩ := y
    obtain ⟨i1, i4, i5⟩ := hy
    dsimp only at *
    have hlt : ¬ k < l.length := by simpa using h
    have e : k = l.length := by omega
    rw [i4, e, List.drop_length]; rfl
theorem ok156 : Ok Tryz.prog 156 cSum := ok_of_wp mixed g75 (by kernel_rfl) (by kernel_rfl) (fun xx => ann0 (annSum xx.1 xx.2.1)) fun xx => wp156 xx.1 xx.2.1
abbrev G76 : Gam := (156, cSum) :: G75
theorem g76 : GamOk Tryz.prog G76 := .cons ok156 g75
end Go.Proofs.YtacaadhlobbemaaGreatDoor
