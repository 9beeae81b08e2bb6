/- The law walked: part of the proof. -/
import Derived.Test.YtcledkhhecdppaaGreatDoorFC
set_option linter.unusedSimpArgs false
set_option linter.unusedVariables false
set_option maxRecDepth 20000
namespace Go.Proofs.YtcledkhhecdppaaGreatDoor
open Go.Sx
set_option maxHeartbeats 20000000
set_option pp.deepTerms true
set_option pp.maxSteps 1000000
def cZones : Con := { args := [aCR, aZ, .val false (.list 130 sArr)], ress := [Bo], owns := [], pre := fun (_, _, l, _) => [l.length ≤ 9223372036854775807], spec := fun _ => (true, ()) }
theorem zn1 {c : Cab} {z : Zon} (h1 : cabS c = 0) (h2 : zoneS z c.1.length = 0) : thE c z = 0 ∧ thF c z = thGF c z ∧ thEE c z = thGE c z := by
 have h : thE c z = 0 := by unfold thE; simp [firstS, h1, h2]
 refine ⟨h, ?_, ?_⟩
 ·unfold thF thGF; rw [if_pos h]
 ·unfold thEE thGE; rw [if_pos h]
theorem zn2 {c : Cab} {z : Zon} (h1 : cabS c = 0) (h2 : ¬ zoneS z c.1.length = 0) : thF c z = (0, 0) ∧ thEE c z = zoneS z c.1.length := by
 have e : thE c z = zoneS z c.1.length := by unfold thE; simp [firstS, h1, h2]
 have h : ¬ thE c z = 0 := by rw [e]; exact h2
 unfold thF thEE
 rw [if_neg h, if_neg h, e]
 exact ⟨rfl, rfl⟩
theorem zn3 {c : Cab} {z : Zon} (h1 : ¬ cabS c = 0) : thF c z = (0, 0) ∧ thEE c z = cabS c := by
 have e : thE c z = cabS c := by unfold thE; simp [firstS, h1]
 have h : ¬ thE c z = 0 := by rw [e]; exact h1
 unfold thF thEE
 rw [if_neg h, if_neg h, e]
 exact ⟨rfl, rfl⟩
theorem zn4 {l : List Arr} {z : Zon} {t : Int} (h : firstS [arrE l, zoneS z 6, thrS t] = 0) : arrB l ∧ tripF l z t = tripS l z.2.2.2 t ∧ tripE l z t = firstS [arrE l, zoneS z 6, thrS t] := by
 have hz := firstS_zero h
 simp only [List.mem_cons, List.not_mem_nil, or_false, forall_eq_or_imp, forall_eq] at hz
 refine ⟨(arrE_bd hz.1).1, ?_, rfl⟩
 unfold tripF
 rw [if_pos (show tripE l z t = 0 from h)]
theorem zn5 {l : List Arr} {z : Zon} {t : Int} (h : ¬ firstS [arrE l, zoneS z 6, thrS t] = 0) : tripF l z t = false ∧ tripE l z t = firstS [arrE l, zoneS z 6, thrS t] := by
 refine ⟨?_, rfl⟩
 unfold tripF
 rw [if_neg (show ¬ tripE l z t = 0 from h)]
def vc9_0 (c : Cab) (z : Zon) (l : List Arr) := ((z.fst.fst, z.fst.snd), z.snd.fst, z.snd.snd.fst, z.snd.snd.snd)
def vc9_1 (c : Cab) (z : Zon) (l : List Arr) := (c.1, c.snd.1, c.snd.snd.fst, c.snd.snd.snd)
def vc9_7 (c : Cab) (z : Zon) (l : List Arr) := (firstS [arrE l, zoneS (vc9_0 c z l) (6 : Int), thrS (z.snd.fst * (262144 : Int))] == (0 : Int))
def vc9_2 (c : Cab) (z : Zon) (l : List Arr) := ((vc9_7 c z l) = true → (List.length l ≤ (1000000 : Nat) ∧ arrB l) ∧ (bif bif bif (thF (vc9_1 c z l) (vc9_0 c z l)).fst == (thGF (vc9_1 c z l) (vc9_0 c z l)).fst && ((thF (vc9_1 c z l) (vc9_0 c z l)).snd == (thGF (vc9_1 c z l) (vc9_0 c z l)).snd && true) then thEE (vc9_1 c z l) (vc9_0 c z l) == thGE (vc9_1 c z l) (vc9_0 c z l) else false then tripF l (vc9_0 c z l) (z.snd.fst * (262144 : Int)) == tripS l z.snd.snd.snd (z.snd.fst * (262144 : Int)) else false then tripE l (vc9_0 c z l) (z.snd.fst * (262144 : Int)) == firstS [arrE l, zoneS (vc9_0 c z l) (6 : Int), thrS (z.snd.fst * (262144 : Int))] else false) = true)
def vc9_3 (c : Cab) (z : Zon) (l : List Arr) := ((vc9_7 c z l) = false → (bif bif bif (thF (vc9_1 c z l) (vc9_0 c z l)).fst == (thGF (vc9_1 c z l) (vc9_0 c z l)).fst && ((thF (vc9_1 c z l) (vc9_0 c z l)).snd == (thGF (vc9_1 c z l) (vc9_0 c z l)).snd && true) then thEE (vc9_1 c z l) (vc9_0 c z l) == thGE (vc9_1 c z l) (vc9_0 c z l) else false then tripF l (vc9_0 c z l) (z.snd.fst * (262144 : Int)) == false else false then tripE l (vc9_0 c z l) (z.snd.fst * (262144 : Int)) == firstS [arrE l, zoneS (vc9_0 c z l) (6 : Int), thrS (z.snd.fst * (262144 : Int))] else false) = true)
def vc9_4 (c : Cab) (z : Zon) (l : List Arr) := ((firstS [arrE l, zoneS (vc9_0 c z l) (6 : Int), thrS (0 : Int)] == (0 : Int)) = true → (List.length l ≤ (1000000 : Nat) ∧ arrB l) ∧ (bif bif bif (thF (vc9_1 c z l) (vc9_0 c z l)).fst == (thGF (vc9_1 c z l) (vc9_0 c z l)).fst && ((thF (vc9_1 c z l) (vc9_0 c z l)).snd == (thGF (vc9_1 c z l) (vc9_0 c z l)).snd && true) then thEE (vc9_1 c z l) (vc9_0 c z l) == thGE (vc9_1 c z l) (vc9_0 c z l) else false then tripF l (vc9_0 c z l) (0 : Int) == tripS l z.snd.snd.snd (0 : Int) else false then tripE l (vc9_0 c z l) (0 : Int) == firstS [arrE l, zoneS (vc9_0 c z l) (6 : Int), thrS (0 : Int)] else false) = true)
def vc9_5 (c : Cab) (z : Zon) (l : List Arr) := ((firstS [arrE l, zoneS (vc9_0 c z l) (6 : Int), thrS (0 : Int)] == (0 : Int)) = false → (bif bif bif (thF (vc9_1 c z l) (vc9_0 c z l)).fst == (thGF (vc9_1 c z l) (vc9_0 c z l)).fst && ((thF (vc9_1 c z l) (vc9_0 c z l)).snd == (thGF (vc9_1 c z l) (vc9_0 c z l)).snd && true) then thEE (vc9_1 c z l) (vc9_0 c z l) == thGE (vc9_1 c z l) (vc9_0 c z l) else false then tripF l (vc9_0 c z l) (0 : Int) == false else false then tripE l (vc9_0 c z l) (0 : Int) == firstS [arrE l, zoneS (vc9_0 c z l) (6 : Int), thrS (0 : Int)] else false) = true)
def vc9_6 (c : Cab) (z : Zon) (l : List Arr) := ((thF (vc9_1 c z l) (vc9_0 c z l)).snd == (0 : Int) && true)
theorem vc9 : ∀ (c : Cab) (z : Zon) (l : List Arr), wpF Tryz.prog G128 (na ()) Tryz.f9 cZones (c, z, l, ()) = (List.length l ≤ (9223372036854775807 : Nat) → ((bif false then true else !shortS (vc9_1 c z l)) = false → List.length l ≤ (9223372036854775807 : Nat)) ∧ ((bif bif bif false then true else !shortS (vc9_1 c z l) then true else !shortA l then true else decide ((20 : Int) < (↑(ByteArray.size z.snd.snd.snd) : Int))) = true → true = true) ∧ ((bif bif bif false then true else !shortS (vc9_1 c z l) then true else !shortA l then true else decide ((20 : Int) < (↑(ByteArray.size z.snd.snd.snd) : Int))) = false → ((withinS z.snd.fst (-1024 : Int) (1024 : Int) == (0 : Int)) = true → ((-9223372036854775808 : Int) ≤ z.snd.fst * (262144 : Int) ∧ z.snd.fst * (262144 : Int) ≤ (9223372036854775807 : Int)) ∧ (List.length c.1 ≤ (1000000 : Nat) ∧ List.length c.snd.1 ≤ (1000000 : Nat) ∧ List.length c.1 ≤ (1000000 : Nat) ∧ List.length c.snd.1 ≤ (1000000 : Nat)) ∧ (List.length l ≤ (1000000 : Nat) ∧ List.length l ≤ (1000000 : Nat)) ∧ (List.length c.1 ≤ (1000000 : Nat) ∧ List.length c.snd.1 ≤ (1000000 : Nat)) ∧ ((cabS (vc9_1 c z l) == (0 : Int)) = true → (List.length l ≤ (1000000 : Nat) ∧ (3 : Nat) ≤ (1000000 : Nat)) ∧ ((zoneS (vc9_0 c z l) (↑(List.length c.fst) : Int) == (0 : Int)) = true → thE (vc9_1 c z l) (vc9_0 c z l) = (0 : Int) ∧ (vc9_2 c z l) ∧ (vc9_3 c z l)) ∧ ((zoneS (vc9_0 c z l) (↑(List.length c.fst) : Int) == (0 : Int)) = false → ((vc9_7 c z l) = true → (List.length l ≤ (1000000 : Nat) ∧ arrB l) ∧ (bif bif bif (thF (vc9_1 c z l) (vc9_0 c z l)).fst == (0 : Int) && (vc9_6 c z l) then thEE (vc9_1 c z l) (vc9_0 c z l) == zoneS (vc9_0 c z l) (↑(List.length c.fst) : Int) else false then tripF l (vc9_0 c z l) (z.snd.fst * (262144 : Int)) == tripS l z.snd.snd.snd (z.snd.fst * (262144 : Int)) else false then tripE l (vc9_0 c z l) (z.snd.fst * (262144 : Int)) == firstS [arrE l, zoneS (vc9_0 c z l) (6 : Int), thrS (z.snd.fst * (262144 : Int))] else false) = true) ∧ ((vc9_7 c z l) = false → (bif bif bif (thF (vc9_1 c z l) (vc9_0 c z l)).fst == (0 : Int) && (vc9_6 c z l) then thEE (vc9_1 c z l) (vc9_0 c z l) == zoneS (vc9_0 c z l) (↑(List.length c.fst) : Int) else false then tripF l (vc9_0 c z l) (z.snd.fst * (262144 : Int)) == false else false then tripE l (vc9_0 c z l) (z.snd.fst * (262144 : Int)) == firstS [arrE l, zoneS (vc9_0 c z l) (6 : Int), thrS (z.snd.fst * (262144 : Int))] else false) = true))) ∧ ((cabS (vc9_1 c z l) == (0 : Int)) = false → (List.length l ≤ (1000000 : Nat) ∧ (3 : Nat) ≤ (1000000 : Nat)) ∧ ((cabS (vc9_1 c z l) == (0 : Int)) = true → thE (vc9_1 c z l) (vc9_0 c z l) = (0 : Int) ∧ (vc9_2 c z l) ∧ (vc9_3 c z l)) ∧ ((cabS (vc9_1 c z l) == (0 : Int)) = false → ((vc9_7 c z l) = true → (List.length l ≤ (1000000 : Nat) ∧ arrB l) ∧ (bif bif bif (thF (vc9_1 c z l) (vc9_0 c z l)).fst == (0 : Int) && (vc9_6 c z l) then thEE (vc9_1 c z l) (vc9_0 c z l) == cabS (vc9_1 c z l) else false then tripF l (vc9_0 c z l) (z.snd.fst * (262144 : Int)) == tripS l z.snd.snd.snd (z.snd.fst * (262144 : Int)) else false then tripE l (vc9_0 c z l) (z.snd.fst * (262144 : Int)) == firstS [arrE l, zoneS (vc9_0 c z l) (6 : Int), thrS (z.snd.fst * (262144 : Int))] else false) = true) ∧ ((vc9_7 c z l) = false → (bif bif bif (thF (vc9_1 c z l) (vc9_0 c z l)).fst == (0 : Int) && (vc9_6 c z l) then thEE (vc9_1 c z l) (vc9_0 c z l) == cabS (vc9_1 c z l) else false then tripF l (vc9_0 c z l) (z.snd.fst * (262144 : Int)) == false else false then tripE l (vc9_0 c z l) (z.snd.fst * (262144 : Int)) == firstS [arrE l, zoneS (vc9_0 c z l) (6 : Int), thrS (z.snd.fst * (262144 : Int))] else false) = true)))) ∧ ((withinS z.snd.fst (-1024 : Int) (1024 : Int) == (0 : Int)) = false → (List.length c.1 ≤ (1000000 : Nat) ∧ List.length c.snd.1 ≤ (1000000 : Nat) ∧ List.length c.1 ≤ (1000000 : Nat) ∧ List.length c.snd.1 ≤ (1000000 : Nat)) ∧ (List.length l ≤ (1000000 : Nat) ∧ List.length l ≤ (1000000 : Nat)) ∧ (List.length c.1 ≤ (1000000 : Nat) ∧ List.length c.snd.1 ≤ (1000000 : Nat)) ∧ ((cabS (vc9_1 c z l) == (0 : Int)) = true → (List.length l ≤ (1000000 : Nat) ∧ (3 : Nat) ≤ (1000000 : Nat)) ∧ ((zoneS (vc9_0 c z l) (↑(List.length c.fst) : Int) == (0 : Int)) = true → thE (vc9_1 c z l) (vc9_0 c z l) = (0 : Int) ∧ (vc9_4 c z l) ∧ (vc9_5 c z l)) ∧ ((zoneS (vc9_0 c z l) (↑(List.length c.fst) : Int) == (0 : Int)) = false → ((firstS [arrE l, zoneS (vc9_0 c z l) (6 : Int), thrS (0 : Int)] == (0 : Int)) = true → (List.length l ≤ (1000000 : Nat) ∧ arrB l) ∧ (bif bif bif (thF (vc9_1 c z l) (vc9_0 c z l)).fst == (0 : Int) && (vc9_6 c z l) then thEE (vc9_1 c z l) (vc9_0 c z l) == zoneS (vc9_0 c z l) (↑(List.length c.fst) : Int) else false then tripF l (vc9_0 c z l) (0 : Int) == tripS l z.snd.snd.snd (0 : Int) else false then tripE l (vc9_0 c z l) (0 : Int) == firstS [arrE l, zoneS (vc9_0 c z l) (6 : Int), thrS (0 : Int)] else false) = true) ∧ ((firstS [arrE l, zoneS (vc9_0 c z l) (6 : Int), thrS (0 : Int)] == (0 : Int)) = false → (bif bif bif (thF (vc9_1 c z l) (vc9_0 c z l)).fst == (0 : Int) && (vc9_6 c z l) then thEE (vc9_1 c z l) (vc9_0 c z l) == zoneS (vc9_0 c z l) (↑(List.length c.fst) : Int) else false then tripF l (vc9_0 c z l) (0 : Int) == false else false then tripE l (vc9_0 c z l) (0 : Int) == firstS [arrE l, zoneS (vc9_0 c z l) (6 : Int), thrS (0 : Int)] else false) = true))) ∧ ((cabS (vc9_1 c z l) == (0 : Int)) = false → (List.length l ≤ (1000000 : Nat) ∧ (3 : Nat) ≤ (1000000 : Nat)) ∧ ((cabS (vc9_1 c z l) == (0 : Int)) = true → thE (vc9_1 c z l) (vc9_0 c z l) = (0 : Int) ∧ (vc9_4 c z l) ∧ (vc9_5 c z l)) ∧ ((cabS (vc9_1 c z l) == (0 : Int)) = false → ((firstS [arrE l, zoneS (vc9_0 c z l) (6 : Int), thrS (0 : Int)] == (0 : Int)) = true → (List.length l ≤ (1000000 : Nat) ∧ arrB l) ∧ (bif bif bif (thF (vc9_1 c z l) (vc9_0 c z l)).fst == (0 : Int) && (vc9_6 c z l) then thEE (vc9_1 c z l) (vc9_0 c z l) == cabS (vc9_1 c z l) else false then tripF l (vc9_0 c z l) (0 : Int) == tripS l z.snd.snd.snd (0 : Int) else false then tripE l (vc9_0 c z l) (0 : Int) == firstS [arrE l, zoneS (vc9_0 c z l) (6 : Int), thrS (0 : Int)] else false) = true) ∧ ((firstS [arrE l, zoneS (vc9_0 c z l) (6 : Int), thrS (0 : Int)] == (0 : Int)) = false → (bif bif bif (thF (vc9_1 c z l) (vc9_0 c z l)).fst == (0 : Int) && (vc9_6 c z l) then thEE (vc9_1 c z l) (vc9_0 c z l) == cabS (vc9_1 c z l) else false then tripF l (vc9_0 c z l) (0 : Int) == false else false then tripE l (vc9_0 c z l) (0 : Int) == firstS [arrE l, zoneS (vc9_0 c z l) (6 : Int), thrS (0 : Int)] else false) = true)))))) := by
 intros
 kernel_rfl
theorem wp9 (c : Cab) (z : Zon) (l : List Arr) : wpF Tryz.prog G128 (na ()) Tryz.f9 cZones (c, z, l, ()) := by
 refine (vc9 c z l).mpr ?_
 delta vc9_0 vc9_1 vc9_7 vc9_2 vc9_3 vc9_4 vc9_5 vc9_6
 intro hl
 obtain ⟨s, j, e0, e1⟩ := c
 obtain ⟨⟨z0, z1⟩, z2, z3, z4⟩ := z
 dsimp only
 refine ⟨fun _ => hl, fun _ => rfl, fun h => ?_⟩
 obtain ⟨hh, _⟩ := bnT.1 h
 obtain ⟨hh, ha⟩ := bnT.1 hh
 have hs := short_len hh
 have hs2 := shortA_len (notF.1 ha)
 have h1 : s.length ≤ 1000000 := Nat.le_trans hs.1 (by decide)
 have h2 : j.length ≤ 1000000 := Nat.le_trans hs.2 (by decide)
 have h3 : l.length ≤ 1000000 := by omega
 clear h hh ha hs hs2 hl
 have es : s.length = ((s, j, e0, e1) : Cab).1.length := rfl
 rw [es] at h1 ⊢
 generalize ((s, j, e0, e1) : Cab) = c at *
 generalize hz : (((z0, z1), z2, z3, z4) : Zon) = z
 have ez : z4 = z.2.2.2 := by rw [← hz]
 subst ez
 repeat' first
  | refine And.intro ?_ ?_
  | refine fun (_ : (_ == (0 : Int)) = _) => ?_
 all_goals simp only [eqz, nez] at *
 all_goals first
  | assumption
  | decide
  | contradiction
  | (have := within_zero.1 ‹withinS _ _ _ = 0›; omega)
  | exact (zn1 ‹cabS c = 0› ‹zoneS _ _ = 0›).1
  | exact (zn4 ‹firstS _ = 0›).1
  | (have A := zn1 ‹cabS c = 0› ‹zoneS _ _ = 0›; have B := zn4 ‹firstS _ = 0›; simp [A.2.1, A.2.2, B.2.1, B.2.2]; done)
  | (have A := zn1 ‹cabS c = 0› ‹zoneS _ _ = 0›; have B := zn5 ‹¬ firstS _ = 0›; simp [A.2.1, A.2.2, B.1, B.2]; done)
  | (have A := zn2 ‹cabS c = 0› ‹¬ zoneS _ _ = 0›; have B := zn4 ‹firstS _ = 0›; simp [A.1, A.2, B.2.1, B.2.2]; done)
  | (have A := zn2 ‹cabS c = 0› ‹¬ zoneS _ _ = 0›; have B := zn5 ‹¬ firstS _ = 0›; simp [A.1, A.2, B.1, B.2]; done)
  | (have A := zn3 (z := z) ‹¬ cabS c = 0›; have B := zn4 ‹firstS _ = 0›; simp [A.1, A.2, B.2.1, B.2.2]; done)
  | (have A := zn3 (z := z) ‹¬ cabS c = 0›; have B := zn5 ‹¬ firstS _ = 0›; simp [A.1, A.2, B.1, B.2]; done)
theorem ok9 : Ok Tryz.prog 9 cZones := ok_of_wp mixed g128 (by kernel_rfl) (by kernel_rfl) na fun xx => wp9 xx.1 xx.2.1 xx.2.2.1
abbrev G129 : Gam := (9, cZones) :: G128
theorem g129 : GamOk Tryz.prog G129 := .cons ok9 g128
end Go.Proofs.YtcledkhhecdppaaGreatDoor
