/- The law walked: part of the proof. -/
import Derived.Test.YtcledkhhecdppaaGreatDoorFC
set_option linter.unusedSimpArgs false
set_option linter.unusedVariables false
set_option maxRecDepth 20000
namespace Go.Proofs.YtcledkhhecdppaaGreatDoor
open Go.Sx
set_option maxHeartbeats 20000000
set_option pp.deepTerms true
set_option pp.maxSteps 1000000
theorem getE {k : Nat} (h : k < 2) : ∃ d, ([sA, sB] : List ByteArray).getD k ⟨⟨[]⟩⟩ = strD d := by
 match k, h with
 | 0, _ => exact ⟨false, rfl⟩
 | 1, _ => exact ⟨true, rfl⟩
theorem endS_V {e : ByteArray} (h : endS e = 0) : ∃ d, e = strD d := by
 unfold endS at h
 by_cases h1 : e.toList = sA.toList
 ·exact ⟨false, (isEnd_iff (e := e) (a := (0, sA, 0))).1 (by unfold isEnd; simp [h1]) ▸ rfl⟩
 ·by_cases h2 : e.toList = sB.toList
  ·exact ⟨true, (isEnd_iff (e := e) (a := (0, sB, 0))).1 (by unfold isEnd; simp [h2]) ▸ rfl⟩
  ·rw [show (e.toList == sA.toList) = false from beq_eq_false_iff_ne.2 h1, show (e.toList == sB.toList) = false from beq_eq_false_iff_ne.2 h2] at h
   cases h
theorem tr_zero {c : Cab} {f : Flt} (d : Bool) (h : fltV c f) : factorE c f.1 (strD d) = 0 ∧ dirE c f (strD d) = 0 ∧ firstE (arrS c f 500) (strD d) = 0 := by
 have hs : secE c f.1 = 0 := secE_zero.2 h.2.1
 have hc : cabS c = 0 := (fltS_V (fltV_S h)).1
 refine ⟨?_, ?_, ?_⟩
 ·unfold factorE; simp [firstS, hs, hc, endS_str]
 ·unfold dirE; simp [firstS, fltV_S h, endS_str]
 ·unfold firstE; simp [firstS, arr_ok h, endS_str]
theorem tr_none {c : Cab} {f : Flt} {d : Bool} (h : fltV c f) (hz : (factorF c f.1 (strD d)).1 = 0) : dirEE c f (strD d) = 7 ∧ firstEE (arrS c f 500) (strD d) = 7 := by
 obtain ⟨z1, z2, z3⟩ := tr_zero d h
 have eF : factorF c f.1 (strD d) = factorG c f.1 (strD d) := by unfold factorF; rw [if_pos z1]
 rw [eF] at hz
 have hz' := (factor_bd (s := f.1) (e := strD d) h.1).2.2.2.2.1 hz
 have hp : prD c f d = 0 := by rw [fact_prod h] at hz'; exact hz'
 have hh := (htD_zero h).2 hp
 constructor
 ·unfold dirEE dirGE; rw [if_pos z2, if_pos hz']
 ·unfold firstEE; rw [if_pos z3, find_arr h (by decide), if_pos hh]; rfl
theorem tr_some {c : Cab} {f : Flt} {d : Bool} (h : fltV c f) (hz : ¬ (factorF c f.1 (strD d)).1 = 0) : dirEE c f (strD d) = 0 ∧ firstEE (arrS c f 500) (strD d) = 0 ∧ dirF c f (strD d) = (tkD c f d, htD c f d) ∧ firstF (arrS c f 500) (strD d) = (tkD c f d, strD d, htD c f d) ∧ htD c f d = (f.2.2.2 * 262144).tdiv (factorF c f.1 (strD d)).2 * (factorF c f.1 (strD d)).1 := by
 obtain ⟨z1, z2, z3⟩ := tr_zero d h
 have eF : factorF c f.1 (strD d) = factorG c f.1 (strD d) := by unfold factorF; rw [if_pos z1]
 rw [eF] at hz
 have hz' : ¬ (factS c f.1 (strD d)).1 = 0 := fun q => hz ((factor_bd (s := f.1) (e := strD d) h.1).2.2.2.2.2 q)
 have hp : ¬ prD c f d = 0 := by rw [fact_prod h] at hz'; exact hz'
 have hh : ¬ htD c f d = 0 := fun q => hp ((htD_zero h).1 q)
 refine ⟨?_, ?_, ?_, ?_, ?_⟩
 ·unfold dirEE dirGE; rw [if_pos z2, if_neg hz']
 ·unfold firstEE; rw [if_pos z3, find_arr h (by decide), if_neg hh]; rfl
 ·unfold dirF dirG; rw [if_pos z2, if_neg hz', tick_D h, height_D h]
 ·unfold firstF; rw [if_pos z3, find_arr h (by decide), if_neg hh]; rfl
 ·rw [eF, factor_ht h, height_D h]
theorem tr_th {c : Cab} {z : Zon} (hc : cabS c = 0) (hz : zoneS z c.1.length = 0) (h : thEE c z = 0) : thF c z = thG c z ∧ (thG c z).1 ≤ (thG c z).2 := by
 have h0 : thE c z = 0 := by unfold thE; simp [firstS, hc, hz]
 unfold thEE at h
 rw [if_pos h0] at h
 by_cases q : (thG c z).2 < (thG c z).1
 ·rw [if_pos q] at h; cases h
 ·refine ⟨?_, by omega⟩
  unfold thF; rw [if_pos h0, if_neg q]
theorem tr_18 {c : Cab} {z : Zon} (hc : cabS c = 0) (hz : zoneS z c.1.length = 0) (h : ¬ thEE c z = 0) : thEE c z = 18 := by
 have h0 : thE c z = 0 := by unfold thE; simp [firstS, hc, hz]
 unfold thEE at h ⊢
 rw [if_pos h0] at h ⊢
 by_cases q : (thG c z).2 < (thG c z).1
 ·rw [if_pos q]
 ·rw [if_neg q] at h; exact absurd rfl h
theorem tr_trip {c : Cab} {f : Flt} {z : Zon} {t : Int} (h : fltV c f) (hz : zoneS z c.1.length = 0) (ht : (thG c z).1 ≤ t ∧ t ≤ (thG c z).2) : tripE (arrS c f 500) z t = 0 ∧ tripF (arrS c f 500) z t = tripS (arrS c f 500) z.2.2.2 t := by
 have hZ := zoneS_V hz
 have hlo := thN_low (c := c) (z := z) (A := 1099511627776) c.1.length
 have hlo : 1 ≤ (thG c z).1 ∧ (thG c z).2 ≤ 1099511627776 := hlo
 have hl := h.1.2.1
 have z6 : zoneS z 6 = 0 := by
  unfold zoneS
  rw [if_neg (by omega), within_zero.2 hZ.2.1, within_zero.2 hZ.2.2.1, hZ.2.2.2]; rfl
 have t0 : thrS t = 0 := within_zero.2 (by omega)
 have e : tripE (arrS c f 500) z t = 0 := by unfold tripE; simp [firstS, arr_ok h, z6, t0]
 refine ⟨e, ?_⟩
 unfold tripF; rw [if_pos e]
def cTripsL : Con := { args := [aCR, aF, aZ], ress := [Bo], owns := [], pre := fun _ => [], spec := fun _ => (true, ()) }
abbrev resT (c : Cab) (f : Flt) (z : Zon) : List (Nat × Res) := [(0, .imm 102 sPt c.1), (1, .imm 3 sI c.2.1), (2, .box 26 [.sl 0, .sl 1, .int .i64 c.2.2.1, .int .i64 c.2.2.2]), (3, .box 28 [.int .i64 f.1, .int .i64 f.2.1, .int .i64 f.2.2.1, .int .i64 f.2.2.2]), (4, .box 119 [.int .i64 z.1.1, .int .i64 z.1.2, .int .i64 z.2.1, .int .i64 z.2.2.1, .str z.2.2.2])]
abbrev annTr (c : Cab) (f : Flt) (z : Zon) : Nat → Option Ann := fun i =>
 if i = 0 then some { X := Nat, σ := fun k => ⟨9, [(3, .one (.ptr 2 0)), (4, .one (.ptr 3 0)), (5, .one (.ptr 4 0)), (7, .one (.sl 7)), (67, .one (.sl 8)), (68, .one (.int .i64 2)), (69, .one (.int .i64 k))], resT c f z ++ [(7, .imm 107 sArr (arrP c f 500)), (8, .own 9 .str [sA, sB])]⟩, inv := fun k => k ≤ 2, mu := fun k => 2 - k }
 else if i = 2 then some { X := Nat, σ := fun k => ⟨13, [(3, .one (.ptr 2 0)), (4, .one (.ptr 3 0)), (5, .one (.ptr 4 0)), (7, .one (.sl 7)), (17, .one (.ptr 11 0)), (19, .one (.bool (bif decide (z.1.1 ≤ f.1) then decide (f.1 < z.1.2) else false))), (20, .one (.int .i64 (max f.2.2.2 (0 - f.2.2.2)))), (203, .one (.sl 12)), (204, .one (.int .i64 2)), (205, .one (.int .i64 k))], resT c f z ++ [(7, .imm 107 sArr (arrP c f 500)), (11, .box 66 [.int .i64 (thF c z).1, .int .i64 (thF c z).2]), (12, .own 3 sI [(thF c z).1, (thF c z).2])]⟩, inv := fun k => k ≤ 2 ∧ thEE c z = 0, mu := fun k => 2 - k }
 else none
def vc13_0 (c : Cab) (f : Flt) (z : Zon) := (c.1, c.2.1, c.2.2.1, c.2.2.2)
def vc13_1 (c : Cab) (f : Flt) (z : Zon) := (f.1, f.2.1, f.2.2.1, f.2.2.2)
def vc13_2 (c : Cab) (f : Flt) (z : Zon) := ((z.1.1, z.1.2), z.2.1, z.2.2.1, z.2.2.2)
def vc13_3 (c : Cab) (f : Flt) (z : Zon) := (List.length c.1 ≤ (1000000 : Nat) ∧ List.length c.2.1 ≤ (1000000 : Nat) ∧ List.length c.1 ≤ (1000000 : Nat) ∧ List.length c.2.1 ≤ (1000000 : Nat))
def vc13_4 (c : Cab) (f : Flt) (z : Zon) := (bif bif bif bif false then true else !shortS (vc13_0 c f z) then true else fltS (vc13_0 c f z) (vc13_1 c f z) != (0 : Int) then true else decide ((20 : Int) < (↑(ByteArray.size z.2.2.2) : Int)) then true else zoneS (vc13_2 c f z) (↑(List.length c.1) : Int) != (0 : Int))
theorem vc13 : ∀ (c : Cab) (f : Flt) (z : Zon), wpF Tryz.prog G128 (annTr c f z) Tryz.f13 cTripsL (c, f, z, ()) = ((((bif false then true else !shortS (vc13_0 c f z)) = false → List.length c.1 ≤ 1000000) ∧ ((bif false then true else !shortS (vc13_0 c f z)) = false → List.length c.2.1 ≤ 1000000)) ∧ ((vc13_4 c f z) = true → true = true) ∧ ((vc13_4 c f z) = false → (vc13_3 c f z) ∧ ((bif winS (vc13_0 c f z) (vc13_1 c f z) (500 : Int) != 0 then true else decide (600 < (↑(List.length (arrP (vc13_0 c f z) (vc13_1 c f z) 500)) : Int))) = true → false = true) ∧ ((bif winS (vc13_0 c f z) (vc13_1 c f z) (500 : Int) != 0 then true else decide (600 < (↑(List.length (arrP (vc13_0 c f z) (vc13_1 c f z) 500)) : Int))) = false → ∃ (x : Nat), ((2 : Int) = 2 ∧ 0 = (↑x : Int) ∧ c.1 = c.1 ∧ c.2.1 = c.2.1 ∧ c.2.2.1 = c.2.2.1 ∧ c.2.2.2 = c.2.2.2 ∧ f.1 = f.1 ∧ f.2.1 = f.2.1 ∧ f.2.2.1 = f.2.2.1 ∧ f.2.2.2 = f.2.2.2 ∧ z.1.1 = z.1.1 ∧ z.1.2 = z.1.2 ∧ z.2.1 = z.2.1 ∧ z.2.2.1 = z.2.2.1 ∧ z.2.2.2 = z.2.2.2 ∧ arrP (vc13_0 c f z) (vc13_1 c f z) 500 = arrP c f 500 ∧ [ByteArray.mk (Array.mk [(65 : UInt8)]), ByteArray.mk (Array.mk [(66 : UInt8)])] = [sA, sB]) ∧ x ≤ 2 ∧ ∀ (x : Nat), x ≤ 2 → (decide ((↑x : Int) < 2) = true → ((0 ≤ (↑x : Int) ∧ (↑x : Int) < 2) ∧ 0 ≤ (↑x : Int) ∧ (↑x : Int) < 2) ∧ (vc13_3 c f z) ∧ (vc13_3 c f z) ∧ (List.length (arrP c f 500) ≤ 1000000 ∧ List.length (arrP c f 500) ≤ 1000000 ∧ List.length (arrP c f 500) ≤ 1000000) ∧ ((bif bif bif bif factorE (vc13_0 c f z) f.1 (List.getD [sA, sB] x (ByteArray.mk (Array.mk []))) != 0 then true else decide ((factorF (vc13_0 c f z) f.1 (List.getD [sA, sB] x (ByteArray.mk (Array.mk [])))).2 < 1) then true else decide (32768 < (factorF (vc13_0 c f z) f.1 (List.getD [sA, sB] x (ByteArray.mk (Array.mk [])))).2) then true else decide ((factorF (vc13_0 c f z) f.1 (List.getD [sA, sB] x (ByteArray.mk (Array.mk [])))).1 < 0) then true else decide (1048576 < (factorF (vc13_0 c f z) f.1 (List.getD [sA, sB] x (ByteArray.mk (Array.mk [])))).1)) = true → false = true) ∧ ((bif bif bif bif factorE (vc13_0 c f z) f.1 (List.getD [sA, sB] x (ByteArray.mk (Array.mk []))) != 0 then true else decide ((factorF (vc13_0 c f z) f.1 (List.getD [sA, sB] x (ByteArray.mk (Array.mk [])))).2 < 1) then true else decide (32768 < (factorF (vc13_0 c f z) f.1 (List.getD [sA, sB] x (ByteArray.mk (Array.mk [])))).2) then true else decide ((factorF (vc13_0 c f z) f.1 (List.getD [sA, sB] x (ByteArray.mk (Array.mk [])))).1 < 0) then true else decide (1048576 < (factorF (vc13_0 c f z) f.1 (List.getD [sA, sB] x (ByteArray.mk (Array.mk [])))).1)) = false → (((factorF (vc13_0 c f z) f.1 (List.getD [sA, sB] x (ByteArray.mk (Array.mk [])))).1 == 0) = true → ((bif dirEE (vc13_0 c f z) (vc13_1 c f z) (List.getD [sA, sB] x (ByteArray.mk (Array.mk []))) != 7 then true else firstEE (arrP c f 500) (List.getD [sA, sB] x (ByteArray.mk (Array.mk []))) != 7) = true → false = true) ∧ ((bif dirEE (vc13_0 c f z) (vc13_1 c f z) (List.getD [sA, sB] x (ByteArray.mk (Array.mk []))) != 7 then true else firstEE (arrP c f 500) (List.getD [sA, sB] x (ByteArray.mk (Array.mk []))) != 7) = false → ((-9223372036854775808) ≤ (↑x : Int) + 1 ∧ (↑x : Int) + (1 : Int) ≤ 9223372036854775807) ∧ ∃ (y : Nat), ((2 : Int) = 2 ∧ (↑x : Int) + 1 = (↑y : Int) ∧ c.1 = c.1 ∧ c.2.1 = c.2.1 ∧ c.2.2.1 = c.2.2.1 ∧ c.2.2.2 = c.2.2.2 ∧ f.1 = f.1 ∧ f.2.1 = f.2.1 ∧ f.2.2.1 = f.2.2.1 ∧ f.2.2.2 = f.2.2.2 ∧ z.1.1 = z.1.1 ∧ z.1.2 = z.1.2 ∧ z.2.1 = z.2.1 ∧ z.2.2.1 = z.2.2.1 ∧ z.2.2.2 = z.2.2.2 ∧ arrP c f 500 = arrP c f 500 ∧ [sA, sB] = [sA, sB]) ∧ y ≤ 2 ∧ 2 - y < 2 - x)) ∧ (((factorF (vc13_0 c f z) f.1 (List.getD [sA, sB] x (ByteArray.mk (Array.mk [])))).1 == 0) = false → (((bif bif dirEE (vc13_0 c f z) (vc13_1 c f z) (List.getD [sA, sB] x (ByteArray.mk (Array.mk []))) != 0 then true else firstEE (arrP c f 500) (List.getD [sA, sB] x (ByteArray.mk (Array.mk []))) != 0 then true else !((firstF (arrP c f 500) (List.getD [sA, sB] x (ByteArray.mk (Array.mk [])))).1 == (dirF (vc13_0 c f z) (vc13_1 c f z) (List.getD [sA, sB] x (ByteArray.mk (Array.mk [])))).1 && (ByteArray.toList (firstF (arrP c f 500) (List.getD [sA, sB] x (ByteArray.mk (Array.mk [])))).2.1 == ByteArray.toList (List.getD [sA, sB] x (ByteArray.mk (Array.mk []))) && ((firstF (arrP c f 500) (List.getD [sA, sB] x (ByteArray.mk (Array.mk [])))).2.2 == (dirF (vc13_0 c f z) (vc13_1 c f z) (List.getD [sA, sB] x (ByteArray.mk (Array.mk [])))).2 && true)))) = false → (-9223372036854775808) ≤ f.2.2.2 * 262144 ∧ f.2.2.2 * (262144 : Int) ≤ 9223372036854775807) ∧ ((bif bif dirEE (vc13_0 c f z) (vc13_1 c f z) (List.getD [sA, sB] x (ByteArray.mk (Array.mk []))) != 0 then true else firstEE (arrP c f 500) (List.getD [sA, sB] x (ByteArray.mk (Array.mk []))) != 0 then true else !((firstF (arrP c f 500) (List.getD [sA, sB] x (ByteArray.mk (Array.mk [])))).1 == (dirF (vc13_0 c f z) (vc13_1 c f z) (List.getD [sA, sB] x (ByteArray.mk (Array.mk [])))).1 && (ByteArray.toList (firstF (arrP c f 500) (List.getD [sA, sB] x (ByteArray.mk (Array.mk [])))).2.1 == ByteArray.toList (List.getD [sA, sB] x (ByteArray.mk (Array.mk []))) && ((firstF (arrP c f 500) (List.getD [sA, sB] x (ByteArray.mk (Array.mk [])))).2.2 == (dirF (vc13_0 c f z) (vc13_1 c f z) (List.getD [sA, sB] x (ByteArray.mk (Array.mk [])))).2 && true)))) = false → (factorF (vc13_0 c f z) f.1 (List.getD [sA, sB] x (ByteArray.mk (Array.mk [])))).2 = 0 → False) ∧ ((bif bif dirEE (vc13_0 c f z) (vc13_1 c f z) (List.getD [sA, sB] x (ByteArray.mk (Array.mk []))) != 0 then true else firstEE (arrP c f 500) (List.getD [sA, sB] x (ByteArray.mk (Array.mk []))) != 0 then true else !((firstF (arrP c f 500) (List.getD [sA, sB] x (ByteArray.mk (Array.mk [])))).1 == (dirF (vc13_0 c f z) (vc13_1 c f z) (List.getD [sA, sB] x (ByteArray.mk (Array.mk [])))).1 && (ByteArray.toList (firstF (arrP c f 500) (List.getD [sA, sB] x (ByteArray.mk (Array.mk [])))).2.1 == ByteArray.toList (List.getD [sA, sB] x (ByteArray.mk (Array.mk []))) && ((firstF (arrP c f 500) (List.getD [sA, sB] x (ByteArray.mk (Array.mk [])))).2.2 == (dirF (vc13_0 c f z) (vc13_1 c f z) (List.getD [sA, sB] x (ByteArray.mk (Array.mk [])))).2 && true)))) = false → I64 (Int.tdiv (f.2.2.2 * 262144) (factorF (vc13_0 c f z) f.1 (List.getD [sA, sB] x (ByteArray.mk (Array.mk [])))).2)) ∧ ((bif bif dirEE (vc13_0 c f z) (vc13_1 c f z) (List.getD [sA, sB] x (ByteArray.mk (Array.mk []))) != 0 then true else firstEE (arrP c f 500) (List.getD [sA, sB] x (ByteArray.mk (Array.mk []))) != 0 then true else !((firstF (arrP c f 500) (List.getD [sA, sB] x (ByteArray.mk (Array.mk [])))).1 == (dirF (vc13_0 c f z) (vc13_1 c f z) (List.getD [sA, sB] x (ByteArray.mk (Array.mk [])))).1 && (ByteArray.toList (firstF (arrP c f 500) (List.getD [sA, sB] x (ByteArray.mk (Array.mk [])))).2.1 == ByteArray.toList (List.getD [sA, sB] x (ByteArray.mk (Array.mk []))) && ((firstF (arrP c f 500) (List.getD [sA, sB] x (ByteArray.mk (Array.mk [])))).2.2 == (dirF (vc13_0 c f z) (vc13_1 c f z) (List.getD [sA, sB] x (ByteArray.mk (Array.mk [])))).2 && true)))) = false → I64 (Int.tdiv (f.2.2.2 * 262144) (factorF (vc13_0 c f z) f.1 (List.getD [sA, sB] x (ByteArray.mk (Array.mk [])))).2 * (factorF (vc13_0 c f z) f.1 (List.getD [sA, sB] x (ByteArray.mk (Array.mk [])))).1))) ∧ ((bif bif bif dirEE (vc13_0 c f z) (vc13_1 c f z) (List.getD [sA, sB] x (ByteArray.mk (Array.mk []))) != 0 then true else firstEE (arrP c f 500) (List.getD [sA, sB] x (ByteArray.mk (Array.mk []))) != 0 then true else !((firstF (arrP c f 500) (List.getD [sA, sB] x (ByteArray.mk (Array.mk [])))).1 == (dirF (vc13_0 c f z) (vc13_1 c f z) (List.getD [sA, sB] x (ByteArray.mk (Array.mk [])))).1 && (ByteArray.toList (firstF (arrP c f 500) (List.getD [sA, sB] x (ByteArray.mk (Array.mk [])))).2.1 == ByteArray.toList (List.getD [sA, sB] x (ByteArray.mk (Array.mk []))) && ((firstF (arrP c f 500) (List.getD [sA, sB] x (ByteArray.mk (Array.mk [])))).2.2 == (dirF (vc13_0 c f z) (vc13_1 c f z) (List.getD [sA, sB] x (ByteArray.mk (Array.mk [])))).2 && true))) then true else (dirF (vc13_0 c f z) (vc13_1 c f z) (List.getD [sA, sB] x (ByteArray.mk (Array.mk [])))).2 != Int.tdiv (f.2.2.2 * 262144) (factorF (vc13_0 c f z) f.1 (List.getD [sA, sB] x (ByteArray.mk (Array.mk [])))).2 * (factorF (vc13_0 c f z) f.1 (List.getD [sA, sB] x (ByteArray.mk (Array.mk [])))).1) = true → false = true) ∧ ((bif bif bif dirEE (vc13_0 c f z) (vc13_1 c f z) (List.getD [sA, sB] x (ByteArray.mk (Array.mk []))) != 0 then true else firstEE (arrP c f 500) (List.getD [sA, sB] x (ByteArray.mk (Array.mk []))) != 0 then true else !((firstF (arrP c f 500) (List.getD [sA, sB] x (ByteArray.mk (Array.mk [])))).1 == (dirF (vc13_0 c f z) (vc13_1 c f z) (List.getD [sA, sB] x (ByteArray.mk (Array.mk [])))).1 && (ByteArray.toList (firstF (arrP c f 500) (List.getD [sA, sB] x (ByteArray.mk (Array.mk [])))).2.1 == ByteArray.toList (List.getD [sA, sB] x (ByteArray.mk (Array.mk []))) && ((firstF (arrP c f 500) (List.getD [sA, sB] x (ByteArray.mk (Array.mk [])))).2.2 == (dirF (vc13_0 c f z) (vc13_1 c f z) (List.getD [sA, sB] x (ByteArray.mk (Array.mk [])))).2 && true))) then true else (dirF (vc13_0 c f z) (vc13_1 c f z) (List.getD [sA, sB] x (ByteArray.mk (Array.mk [])))).2 != Int.tdiv (f.2.2.2 * 262144) (factorF (vc13_0 c f z) f.1 (List.getD [sA, sB] x (ByteArray.mk (Array.mk [])))).2 * (factorF (vc13_0 c f z) f.1 (List.getD [sA, sB] x (ByteArray.mk (Array.mk [])))).1) = false → ((-9223372036854775808) ≤ (↑x : Int) + 1 ∧ (↑x : Int) + (1 : Int) ≤ 9223372036854775807) ∧ ∃ (y : Nat), ((2 : Int) = 2 ∧ (↑x : Int) + 1 = (↑y : Int) ∧ c.1 = c.1 ∧ c.2.1 = c.2.1 ∧ c.2.2.1 = c.2.2.1 ∧ c.2.2.2 = c.2.2.2 ∧ f.1 = f.1 ∧ f.2.1 = f.2.1 ∧ f.2.2.1 = f.2.2.1 ∧ f.2.2.2 = f.2.2.2 ∧ z.1.1 = z.1.1 ∧ z.1.2 = z.1.2 ∧ z.2.1 = z.2.1 ∧ z.2.2.1 = z.2.2.1 ∧ z.2.2.2 = z.2.2.2 ∧ arrP c f 500 = arrP c f 500 ∧ [sA, sB] = [sA, sB]) ∧ y ≤ 2 ∧ 2 - y < 2 - x)))) ∧ (decide ((↑x : Int) < 2) = false → (vc13_3 c f z) ∧ ((thEE (vc13_0 c f z) (vc13_2 c f z) != 0) = true → (thEE (vc13_0 c f z) (vc13_2 c f z) == 18) = true) ∧ ((thEE (vc13_0 c f z) (vc13_2 c f z) != 0) = false → ((-9223372036854775808 : Int) ≤ 0 - f.2.2.2 ∧ 0 - f.2.2.2 ≤ 9223372036854775807) ∧ ((bif decide ((thF (vc13_0 c f z) (vc13_2 c f z)).1 < 1) then true else decide (1099511627776 < (thF (vc13_0 c f z) (vc13_2 c f z)).2)) = true → false = true) ∧ ((bif decide ((thF (vc13_0 c f z) (vc13_2 c f z)).1 < 1) then true else decide (1099511627776 < (thF (vc13_0 c f z) (vc13_2 c f z)).2)) = false → ∃ (x : Nat), (((bif decide (z.1.1 ≤ f.1) then decide (f.1 < z.1.2) else false) = bif decide (z.1.1 ≤ f.1) then decide (f.1 < z.1.2) else false) ∧ max f.2.2.2 (0 - f.2.2.2) = max f.2.2.2 (0 - f.2.2.2) ∧ (2 : Int) = 2 ∧ 0 = (↑x : Int) ∧ c.1 = c.1 ∧ c.2.1 = c.2.1 ∧ c.2.2.1 = c.2.2.1 ∧ c.2.2.2 = c.2.2.2 ∧ f.1 = f.1 ∧ f.2.1 = f.2.1 ∧ f.2.2.1 = f.2.2.1 ∧ f.2.2.2 = f.2.2.2 ∧ z.1.1 = z.1.1 ∧ z.1.2 = z.1.2 ∧ z.2.1 = z.2.1 ∧ z.2.2.1 = z.2.2.1 ∧ z.2.2.2 = z.2.2.2 ∧ arrP c f 500 = arrP c f 500 ∧ (thF (vc13_0 c f z) (vc13_2 c f z)).1 = (thF c z).1 ∧ (thF (vc13_0 c f z) (vc13_2 c f z)).2 = (thF c z).2 ∧ [(thF (vc13_0 c f z) (vc13_2 c f z)).1, (thF (vc13_0 c f z) (vc13_2 c f z)).2] = [(thF c z).1, (thF c z).2]) ∧ (x ≤ 2 ∧ thEE c z = 0) ∧ ∀ (x : Nat), x ≤ 2 ∧ thEE c z = 0 → (decide ((↑x : Int) < 2) = true → ((0 ≤ (↑x : Int) ∧ (↑x : Int) < 2) ∧ 0 ≤ (↑x : Int) ∧ (↑x : Int) < 2) ∧ (List.length (arrP c f 500) ≤ 1000000 ∧ List.length (arrP c f 500) ≤ 1000000 ∧ List.length (arrP c f 500) ≤ 1000000) ∧ ((bif bif tripE (arrP c f 500) (vc13_2 c f z) (List.getD [(thF c z).1, (thF c z).2] x 0) != 0 then true else bif bif bif decide (z.1.1 ≤ f.1) then decide (f.1 < z.1.2) else false then decide (z.2.1 ≤ max f.2.2.2 (0 - f.2.2.2)) else false then !tripF (arrP c f 500) (vc13_2 c f z) (List.getD [(thF c z).1, (thF c z).2] x 0) else false then true else bif bif !bif decide (z.1.1 ≤ f.1) then decide (f.1 < z.1.2) else false then decide (max f.2.2.2 (0 - f.2.2.2) ≤ z.2.2.1) else false then tripF (arrP c f 500) (vc13_2 c f z) (List.getD [(thF c z).1, (thF c z).2] x 0) else false) = true → false = true) ∧ ((bif bif tripE (arrP c f 500) (vc13_2 c f z) (List.getD [(thF c z).1, (thF c z).2] x 0) != 0 then true else bif bif bif decide (z.1.1 ≤ f.1) then decide (f.1 < z.1.2) else false then decide (z.2.1 ≤ max f.2.2.2 (0 - f.2.2.2)) else false then !tripF (arrP c f 500) (vc13_2 c f z) (List.getD [(thF c z).1, (thF c z).2] x 0) else false then true else bif bif !bif decide (z.1.1 ≤ f.1) then decide (f.1 < z.1.2) else false then decide (max f.2.2.2 (0 - f.2.2.2) ≤ z.2.2.1) else false then tripF (arrP c f 500) (vc13_2 c f z) (List.getD [(thF c z).1, (thF c z).2] x 0) else false) = false → ((-9223372036854775808) ≤ (↑x : Int) + 1 ∧ (↑x : Int) + (1 : Int) ≤ 9223372036854775807) ∧ ∃ (y : Nat), (((bif decide (z.1.1 ≤ f.1) then decide (f.1 < z.1.2) else false) = bif decide (z.1.1 ≤ f.1) then decide (f.1 < z.1.2) else false) ∧ max f.2.2.2 (0 - f.2.2.2) = max f.2.2.2 (0 - f.2.2.2) ∧ (2 : Int) = 2 ∧ (↑x : Int) + 1 = (↑y : Int) ∧ c.1 = c.1 ∧ c.2.1 = c.2.1 ∧ c.2.2.1 = c.2.2.1 ∧ c.2.2.2 = c.2.2.2 ∧ f.1 = f.1 ∧ f.2.1 = f.2.1 ∧ f.2.2.1 = f.2.2.1 ∧ f.2.2.2 = f.2.2.2 ∧ z.1.1 = z.1.1 ∧ z.1.2 = z.1.2 ∧ z.2.1 = z.2.1 ∧ z.2.2.1 = z.2.2.1 ∧ z.2.2.2 = z.2.2.2 ∧ arrP c f 500 = arrP c f 500 ∧ (thF c z).1 = (thF c z).1 ∧ (thF c z).2 = (thF c z).2 ∧ [(thF c z).1, (thF c z).2] = [(thF c z).1, (thF c z).2]) ∧ (y ≤ 2 ∧ thEE c z = 0) ∧ 2 - y < 2 - x)) ∧ (decide ((↑x : Int) < 2) = false → true = true))))))) := by
 intros
 kernel_rfl
theorem wp13 (c : Cab) (f : Flt) (z : Zon) : wpF Tryz.prog G128 (annTr c f z) Tryz.f13 cTripsL (c, f, z, ()) := by
 refine (vc13 c f z).mpr ?_
 delta vc13_0 vc13_1 vc13_2 vc13_3 vc13_4
 delta I64
 refine ⟨⟨fun h => Nat.le_trans (short_len h).1 (by decide), fun h => Nat.le_trans (short_len h).2 (by decide)⟩, fun _ => rfl, fun h => ?_⟩
 have h : (bif bif bif bif false then true else !shortS c then true else (fltS c f != 0) then true else decide (20 < (z.2.2.2.size : Int)) then true else (zoneS z c.1.length != 0)) = false := h
 obtain ⟨h, hz⟩ := bnT.1 h
 obtain ⟨h, h20⟩ := bnT.1 h
 obtain ⟨h, hf⟩ := bnT.1 h
 have hs := short_len h
 have hf : fltS c f = 0 := bne_eq_false_iff_eq.1 hf
 have hz : zoneS z c.1.length = 0 := bne_eq_false_iff_eq.1 hz
 obtain ⟨hc, hv⟩ := fltS_V hf
 have hw : winS c f 500 = 0 := winS_zero hv (by decide)
 have eA : arrP c f 500 = arrS c f 500 := by unfold arrP; rw [if_pos hw]
 have hl := arrS_len (win := 500) hv
 have h1 : c.1.length ≤ 1000000 := Nat.le_trans hs.1 (by decide)
 have h2 : c.2.1.length ≤ 1000000 := Nat.le_trans hs.2 (by decide)
 have hA : (arrP c f 500).length ≤ 1000000 := by rw [eA]; omega
 have hv4 := hv.2.2.2.2.1
 refine ⟨⟨h1, h2, h1, h2⟩, fun q => ?_, fun _ => ?_⟩
 ·exfalso
  have q : (bif winS c f 500 != 0 then true else decide (600 < ((arrP c f 500).length : Int))) = true := q
  rw [hw, eA, decide_eq_false (by omega)] at q
  cases q
 refine ⟨(0 : Nat), ⟨rfl, rfl, rfl, rfl, rfl, rfl, rfl, rfl, rfl, rfl, rfl, rfl, rfl, rfl, rfl, rfl, rfl⟩, Nat.zero_le _, fun (k : Nat) hk => ⟨fun h => ?_, fun h => ?_⟩⟩
 ·have hlt : k < 2 := by have := of_decide_eq_true h; omega
  obtain ⟨d, hd⟩ := getE hlt
  rw [hd]
  obtain ⟨z1, z2, z3⟩ := tr_zero d hv
  have eF : factorF c f.1 (strD d) = factorG c f.1 (strD d) := by unfold factorF; rw [if_pos z1]
  have hb := factor_bd (s := f.1) (e := strD d) hv.1
  rw [← eF] at hb
  have hb2 := hb.2.2.2.1
  have hb0 := hb.2.2.1
  refine ⟨by omega, ⟨h1, h2, h1, h2⟩, ⟨h1, h2, h1, h2⟩, ⟨hA, hA, hA⟩, fun q => ?_, fun _ => ⟨fun q0 => ⟨fun q => ?_, fun _ => ⟨by omega, (k + 1 : Nat), ⟨rfl, by simp, rfl, rfl, rfl, rfl, rfl, rfl, rfl, rfl, rfl, rfl, rfl, rfl, rfl, rfl, rfl⟩, by omega, by omega⟩⟩, fun q0 => ⟨⟨fun _ => by omega, fun _ q => ?_, fun _ => ?_, fun _ => ?_⟩, fun q => ?_, fun _ => ⟨by omega, (k + 1 : Nat), ⟨rfl, by simp, rfl, rfl, rfl, rfl, rfl, rfl, rfl, rfl, rfl, rfl, rfl, rfl, rfl, rfl, rfl⟩, by omega, by omega⟩⟩⟩⟩
  ·exfalso
   have q : (bif bif bif bif (factorE c f.1 (strD d) != 0) then true else decide ((factorF c f.1 (strD d)).2 < 1) then true else decide (32768 < (factorF c f.1 (strD d)).2) then true else decide ((factorF c f.1 (strD d)).1 < 0) then true else decide (1048576 < (factorF c f.1 (strD d)).1)) = true := q
   rw [z1, decide_eq_false (by omega), decide_eq_false (by omega), decide_eq_false (by omega), decide_eq_false (by omega)] at q
   cases q
  ·exfalso
   have q0 : (factorF c f.1 (strD d)).1 = 0 := eq_of_beq q0
   have t := tr_none hv q0
   have q : (bif dirEE c f (strD d) != 7 then true else firstEE (arrP c f 500) (strD d) != 7) = true := q
   rw [eA, t.1, t.2] at q
   cases q
  ·have q : (factorF c f.1 (strD d)).2 = 0 := q
   omega
  ·have := tdiv_bd (a := f.2.2.2 * 262144) (g := (factorF c f.1 (strD d)).2) (B := 268435456) ⟨by omega, by omega⟩
   show -9223372036854775808 ≤ (f.2.2.2 * 262144).tdiv (factorF c f.1 (strD d)).2 ∧ (f.2.2.2 * 262144).tdiv (factorF c f.1 (strD d)).2 ≤ 9223372036854775807
   omega
  ·have hq := tdiv_bd (a := f.2.2.2 * 262144) (g := (factorF c f.1 (strD d)).2) (B := 268435456) ⟨by omega, by omega⟩
   show -9223372036854775808 ≤ (f.2.2.2 * 262144).tdiv (factorF c f.1 (strD d)).2 * (factorF c f.1 (strD d)).1 ∧ (f.2.2.2 * 262144).tdiv (factorF c f.1 (strD d)).2 * (factorF c f.1 (strD d)).1 ≤ 9223372036854775807
   generalize (f.2.2.2 * 262144).tdiv (factorF c f.1 (strD d)).2 = u at *
   generalize (factorF c f.1 (strD d)).1 = p at *
   have u1 : u * p ≤ 268435456 * p := Int.mul_le_mul_of_nonneg_right (by omega) hb0
   have u2 : -268435456 * p ≤ u * p := Int.mul_le_mul_of_nonneg_right (by omega) hb0
   omega
  ·exfalso
   have q0 : ¬ (factorF c f.1 (strD d)).1 = 0 := beq_eq_false_iff_ne.1 q0
   obtain ⟨t1, t2, t3, t4, t5⟩ := tr_some hv q0
   have q : (bif bif bif (dirEE c f (strD d) != 0) then true else (firstEE (arrP c f 500) (strD d) != 0) then true else !((firstF (arrP c f 500) (strD d)).1 == (dirF c f (strD d)).1 && ((firstF (arrP c f 500) (strD d)).2.1.toList == (strD d).toList && ((firstF (arrP c f 500) (strD d)).2.2 == (dirF c f (strD d)).2 && true))) then true else ((dirF c f (strD d)).2 != (f.2.2.2 * 262144).tdiv (factorF c f.1 (strD d)).2 * (factorF c f.1 (strD d)).1)) = true := q
   rw [eA, t1, t2, t3, t4, ← t5] at q
   simp at q
 ·refine ⟨⟨h1, h2, h1, h2⟩, fun q => ?_, fun q => ?_⟩
  ·have q : ¬ thEE c z = 0 := bne_iff_ne.1 q
   show (thEE c z == 18) = true
   rw [tr_18 hc hz q]; rfl
  have hth : thEE c z = 0 := bne_eq_false_iff_eq.1 q
  obtain ⟨eT, hlh⟩ := tr_th hc hz hth
  have hlo : 1 ≤ (thG c z).1 ∧ (thG c z).2 ≤ 1099511627776 := thN_low (c := c) (z := z) (A := 1099511627776) c.1.length
  refine ⟨by omega, fun r => ?_, fun _ => ⟨(0 : Nat), ⟨rfl, rfl, rfl, rfl, rfl, rfl, rfl, rfl, rfl, rfl, rfl, rfl, rfl, rfl, rfl, rfl, rfl, rfl, rfl, rfl, rfl⟩, ⟨Nat.zero_le _, hth⟩, fun (x : Nat) hx => ⟨fun h => ?_, fun _ => rfl⟩⟩⟩
  ·exfalso
   have r : (bif decide ((thF c z).1 < 1) then true else decide (1099511627776 < (thF c z).2)) = true := r
   rw [eT, decide_eq_false (by omega), decide_eq_false (by omega)] at r
   cases r
  ·have hlt : x < 2 := by have := of_decide_eq_true h; omega
   have ht : (thG c z).1 ≤ [(thF c z).1, (thF c z).2].getD x 0 ∧ [(thF c z).1, (thF c z).2].getD x 0 ≤ (thG c z).2 := by
    rw [eT]
    match x, hlt with
    | 0, _ => exact ⟨Int.le_refl _, hlh⟩
    | 1, _ => exact ⟨hlh, Int.le_refl _⟩
   obtain ⟨d, hd⟩ := endS_V (zoneS_V hz).2.2.2
   obtain ⟨g1, g2⟩ := tr_trip hv hz ht
   obtain ⟨g3, g4⟩ := zone_trip (win := 500) hv (by decide) hz hd ht
   refine ⟨by omega, ⟨hA, hA, hA⟩, fun q => ?_, fun _ => ⟨by omega, (x + 1 : Nat), ⟨rfl, rfl, rfl, by simp, rfl, rfl, rfl, rfl, rfl, rfl, rfl, rfl, rfl, rfl, rfl, rfl, rfl, rfl, rfl, rfl, rfl⟩, ⟨by omega, hth⟩, by omega⟩⟩
   exfalso
   generalize [(thF c z).1, (thF c z).2].getD x 0 = t at *
   have q : (bif bif (tripE (arrP c f 500) z t != 0) then true else bif bif bif decide (z.1.1 ≤ f.1) then decide (f.1 < z.1.2) else false then decide (z.2.1 ≤ max f.2.2.2 (0 - f.2.2.2)) else false then !tripF (arrP c f 500) z t else false then true else bif bif !bif decide (z.1.1 ≤ f.1) then decide (f.1 < z.1.2) else false then decide (max f.2.2.2 (0 - f.2.2.2) ≤ z.2.2.1) else false then tripF (arrP c f 500) z t else false) = true := q
   rw [eA, g1, g2] at q
   by_cases hin : z.1.1 ≤ f.1 ∧ f.1 < z.1.2
   ·rw [decide_eq_true hin.1, decide_eq_true hin.2] at q
    by_cases hm : z.2.1 ≤ max f.2.2.2 (0 - f.2.2.2)
    ·rw [g3 hin hm] at q; simp at q
    ·rw [decide_eq_false hm] at q; simp at q
   ·have e : (bif decide (z.1.1 ≤ f.1) then decide (f.1 < z.1.2) else false) = false := by
     by_cases a : z.1.1 ≤ f.1
     ·rw [decide_eq_true a, decide_eq_false (fun b => hin ⟨a, b⟩)]; rfl
     ·rw [decide_eq_false a]; rfl
    rw [e] at q
    by_cases hm : max f.2.2.2 (0 - f.2.2.2) ≤ z.2.2.1
    ·rw [g4 hin hm] at q; simp at q
    ·rw [decide_eq_false hm] at q; simp at q
theorem ok13 : Ok Tryz.prog 13 cTripsL := ok_of_wp mixed g128 (by kernel_rfl) (by kernel_rfl) (fun xx => annTr xx.1 xx.2.1 xx.2.2.1) fun xx => wp13 xx.1 xx.2.1 xx.2.2.1
end Go.Proofs.YtcledkhhecdppaaGreatDoor
