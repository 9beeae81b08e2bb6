/- The law walked: part of the proof. -/
import Derived.Test.YtcledkhhecdppaaGreatDoorFC
set_option linter.unusedSimpArgs false
set_option linter.unusedVariables false
set_option maxRecDepth 20000
namespace Go.Proofs.YtcledkhhecdppaaGreatDoor
open Go.Sx
set_option maxHeartbeats 20000000
set_option pp.deepTerms true
set_option pp.maxSteps 1000000
def cMirrorsL : Con := { args := [aCR, aF, .val false (.int .u8)], ress := [Bo], owns := [], pre := fun (_, _, n, _) => [0 ≤ n ∧ n ≤ 255], spec := fun _ => (true, ()) }
abbrev wn (n : Int) : Int := n.tmod 201
abbrev lM (c : Cab) (f : Flt) (n : Int) : List Arr := arrP c f (wn n)
abbrev mM (c : Cab) (f : Flt) (n : Int) : List Arr := arrP (revP c) (turnP c f) (wn n)
abbrev resM (c : Cab) (f : Flt) (n : Int) : List (Nat × Res) := [(0, .imm 102 sPt c.1), (1, .imm 3 sI c.2.1), (2, .box 26 [.sl 0, .sl 1, .int .i64 c.2.2.1, .int .i64 c.2.2.2]), (3, .box 28 [.int .i64 f.1, .int .i64 f.2.1, .int .i64 f.2.2.1, .int .i64 f.2.2.2]), (10, .imm 107 sArr (lM c f n))]
abbrev slM (n : Int) : List (Nat × SV) := [(3, .one (.ptr 2 0)), (4, .one (.ptr 3 0)), (7, .one (.int .i64 (wn n))), (16, .one (.sl 10))]
abbrev annMi (c : Cab) (f : Flt) (n : Int) : Nat → Option Ann := fun i =>
 if i = 0 then some { X := Nat, σ := fun k => ⟨21, slM n ++ [(18, .one (.sl 11)), (169, .one (.sl 20)), (170, .one (.int .i64 2)), (171, .one (.int .i64 k))], resM c f n ++ [(11, .imm 107 sArr (mM c f n)), (20, .own 9 .str [sA, sB])]⟩, inv := fun k => k ≤ 2, mu := fun k => 2 - k }
 else if i = 2 then some { X := (Nat × Nat) × List Arr × List Arr, σ := fun p => ⟨21, slM n ++ [(18, .one (.sl 11)), (21, .one (.str ([sA, sB].getD p.1.1 ⟨⟨[]⟩⟩))), (22, .one (.str ([sB, sA].getD p.1.1 ⟨⟨[]⟩⟩))), (23, .one (.sl 12)), (24, .one (.sl 13)), (169, .one (.sl 20)), (170, .one (.int .i64 2)), (171, .one (.int .i64 p.1.1)), (177, .one (.sl 10)), (178, .one (.int .i64 (lM c f n).length)), (179, .one (.int .i64 p.1.2))], resM c f n ++ [(11, .imm 107 sArr (mM c f n)), (12, .own 107 sArr p.2.1), (13, .own 107 sArr p.2.2), (20, .own 9 .str [sA, sB])]⟩, inv := fun p => p.1.1 < 2 ∧ p.1.2 ≤ (lM c f n).length ∧ p.2.1 = ((lM c f n).take p.1.2).filter (isEnd ([sA, sB].getD p.1.1 ⟨⟨[]⟩⟩)) ∧ p.2.2 = ((mM c f n).take p.1.2).filter (isEnd ([sB, sA].getD p.1.1 ⟨⟨[]⟩⟩)), mu := fun p => (lM c f n).length - p.1.2, rel := some fun a b => a.1.1 = b.1.1 }
 else if i = 4 then some { X := (Nat × Nat) × List Arr × List Arr, σ := fun p => ⟨21, slM n ++ [(18, .one (.sl 11)), (23, .one (.sl 12)), (24, .one (.sl 13)), (169, .one (.sl 20)), (170, .one (.int .i64 2)), (171, .one (.int .i64 p.1.1)), (217, .one (.int .i64 p.2.1.length)), (218, .one (.int .i64 p.1.2))], resM c f n ++ [(11, .imm 107 sArr (mM c f n)), (12, .own 107 sArr p.2.1), (13, .own 107 sArr p.2.2), (20, .own 9 .str [sA, sB])]⟩, inv := fun p => p.1.1 < 2 ∧ p.1.2 ≤ p.2.1.length ∧ p.2.1 = (lM c f n).filter (isEnd ([sA, sB].getD p.1.1 ⟨⟨[]⟩⟩)) ∧ p.2.2 = (mM c f n).filter (isEnd ([sB, sA].getD p.1.1 ⟨⟨[]⟩⟩)), mu := fun p => p.2.1.length - p.1.2, rel := some fun a b => a.1.1 = b.1.1 ∧ a.2 = b.2 }
 else if i = 6 then some { X := Nat, σ := fun k => ⟨21, [(16, .one (.sl 10)), (30, .one (.sl 11)), (32, .one (.sl 12)), (34, .one (.sl 13)), (36, .one (.sl 14)), (337, .one (.sl 10)), (338, .one (.int .i64 (lM c f n).length)), (339, .one (.int .i64 k))], [(10, .imm 107 sArr (lM c f n)), (11, .imm 107 sArr (arrP c (f.1, f.2.1, f.2.2.1, 2 * f.2.2.2) (wn n))), (12, .imm 107 sArr (arrP c (f.1, f.2.1, f.2.2.1, 0 - f.2.2.2) (wn n))), (13, .imm 107 sArr (arrP c (f.1, f.2.1, f.2.2.1 + 7, f.2.2.2) (wn n))), (14, .imm 107 sArr (arrP c f (wn n + 9)))]⟩, inv := fun k => k ≤ (lM c f n).length, mu := fun k => (lM c f n).length - k }
 else none
theorem getE12 {k : Nat} (h : k < 2) : ∃ d, ([sA, sB] : List ByteArray).getD k ⟨⟨[]⟩⟩ = strD d ∧ ([sB, sA] : List ByteArray).getD k ⟨⟨[]⟩⟩ = strD (!d) := by
 match k, h with
 | 0, _ => exact ⟨false, rfl, rfl⟩
 | 1, _ => exact ⟨true, rfl, rfl⟩
theorem revP_V {c : Cab} (hc : cabS c = 0) : revP c = revC c := by unfold revP; rw [if_pos hc]
theorem turnP_V {c : Cab} {f : Flt} (h : fltS c f = 0) : turnP c f = turnF c f := by unfold turnP; rw [if_pos h]
theorem arrP_V {c : Cab} {f : Flt} {w : Int} (h : fltV c f) (hw : 0 ≤ w ∧ w ≤ 1000) : arrP c f w = arrS c f w := by unfold arrP; rw [if_pos (winS_zero h hw)]
theorem isEnd_D (a : Arr) (d b : Bool) (h : a.2.1 = strD d) : isEnd (strD b) a = (d == b) := by
 unfold isEnd
 rw [h, Lib.toList_data, Lib.toList_data]
 cases d <;> cases b <;> rfl
theorem sAB12 : (sA.toList == sB.toList) = false := by rw [Lib.toList_data, Lib.toList_data]; rfl
theorem sBB12 : (sB.toList == sB.toList) = true := by rw [Lib.toList_data]; rfl
abbrev eqA (x y : Arr) : Bool := !(x.1 == y.1 && (x.2.1.toList == y.2.1.toList && (x.2.2 == y.2.2 && true)))
theorem eqA_self {x y : Arr} (h : x = y) : eqA x y = false := by subst h; simp [eqA]
theorem len_ends : ∀ {l : List Arr}, (∀ a ∈ l, ∃ d, a.2.1 = strD d) → l.length = (atEnd false l).length + (atEnd true l).length
 | [], _ => rfl
 | a :: l, h => by
  have ih := len_ends (l := l) fun b hb => h b (List.mem_cons_of_mem _ hb)
  obtain ⟨d, hd⟩ := h a (List.mem_cons_self ..)
  unfold atEnd at ih ⊢
  rw [List.filter_cons, List.filter_cons, isEnd_D a d false hd, isEnd_D a d true hd]
  cases d
  ·simp; omega
  ·simp; omega
theorem len_mi {c : Cab} {f : Flt} {w : Int} (h : fltV c f) : (arrS (revC c) (turnF c f) w).length = (arrS c f w).length := by
 rw [len_ends (l := arrS c f w) fun a ha => end_str ha h, len_ends (l := arrS (revC c) (turnF c f) w) fun a ha => end_str ha (turn_V h)]
 rw [arr_mi h false, arr_mi h true, List.length_map, List.length_map]
 exact Nat.add_comm _ _
theorem filt_take {l : List Arr} {p : Arr → Bool} {k : Nat} {d : Arr} (h : k < l.length) : (l.take (k + 1)).filter p = (l.take k).filter p ++ (if p (l.getD k d) = true then [l.getD k d] else []) := by
 rw [← take_snoc (d := d) h, List.filter_append, List.filter_cons]
 rfl
theorem getD_map_set {l m : List Arr} {d : Bool} {k : Nat} {z : Arr} (e : l = m.map (setE d)) (h : k < l.length) : (l.getD k z).1 = (m.getD k z).1 ∧ (l.getD k z).2.2 = (m.getD k z).2.2 := by
 subst e
 rw [List.length_map] at h
 rw [List.getD_eq_getElem?_getD, List.getD_eq_getElem?_getD, List.getElem?_map, List.getElem?_eq_getElem h]
 exact ⟨rfl, rfl⟩
theorem getD_mapA {l : List Arr} {g : Arr → Arr} {k : Nat} {z : Arr} (h : k < l.length) : (l.map g).getD k z = g (l.getD k z) := by
 rw [List.getD_eq_getElem?_getD, List.getD_eq_getElem?_getD, List.getElem?_map, List.getElem?_eq_getElem h]
 rfl
def vc12_0 (c : Cab) (f : Flt) (n : Int) := ((turnP (c.1, c.2.1, c.2.2.1, c.2.2.2) (f.1, f.2.1, f.2.2.1, f.2.2.2)).1, (turnP (c.1, c.2.1, c.2.2.1, c.2.2.2) (f.1, f.2.1, f.2.2.1, f.2.2.2)).2.1, (turnP (c.1, c.2.1, c.2.2.1, c.2.2.2) (f.1, f.2.1, f.2.2.1, f.2.2.2)).2.2.1, (turnP (c.1, c.2.1, c.2.2.1, c.2.2.2) (f.1, f.2.1, f.2.2.1, f.2.2.2)).2.2.2)
def vc12_1 (c : Cab) (f : Flt) (n : Int) := ((revP (c.1, c.2.1, c.2.2.1, c.2.2.2)).1, (revP (c.1, c.2.1, c.2.2.1, c.2.2.2)).2.1, (revP (c.1, c.2.1, c.2.2.1, c.2.2.2)).2.2.1, (revP (c.1, c.2.1, c.2.2.1, c.2.2.2)).2.2.2)
def vc12_2 (c : Cab) (f : Flt) (n : Int) := ((0 : Int), ByteArray.mk (Array.mk []), (0 : Int))
def vc12_3 (c : Cab) (f : Flt) (n : Int) (x : Nat) := ((List.getD (arrP c (f.1, f.2.1, f.2.2.1, (2 : Int) * f.2.2.2) (wn n)) x (vc12_2 c f n)).1 == (List.getD (lM c f n) x (vc12_2 c f n)).1 && (ByteArray.toList (List.getD (arrP c (f.1, f.2.1, f.2.2.1, (2 : Int) * f.2.2.2) (wn n)) x (vc12_2 c f n)).2.1 == ByteArray.toList (List.getD (lM c f n) x (vc12_2 c f n)).2.1 && ((List.getD (arrP c (f.1, f.2.1, f.2.2.1, (2 : Int) * f.2.2.2) (wn n)) x (vc12_2 c f n)).2.2 == (2 : Int) * (List.getD (lM c f n) x (vc12_2 c f n)).2.2 && true)))
def vc12_4 (c : Cab) (f : Flt) (n : Int) (x : Nat) := ((List.getD (arrP c (f.1, f.2.1, f.2.2.1, (0 : Int) - f.2.2.2) (wn n)) x (vc12_2 c f n)).1 == (List.getD (lM c f n) x (vc12_2 c f n)).1 && (ByteArray.toList (List.getD (arrP c (f.1, f.2.1, f.2.2.1, (0 : Int) - f.2.2.2) (wn n)) x (vc12_2 c f n)).2.1 == ByteArray.toList (List.getD (lM c f n) x (vc12_2 c f n)).2.1 && ((List.getD (arrP c (f.1, f.2.1, f.2.2.1, (0 : Int) - f.2.2.2) (wn n)) x (vc12_2 c f n)).2.2 == (0 : Int) - (List.getD (lM c f n) x (vc12_2 c f n)).2.2 && true)))
def vc12_5 (c : Cab) (f : Flt) (n : Int) := (c.1, c.2.1, c.2.2.1, c.2.2.2)
def vc12_6 (c : Cab) (f : Flt) (n : Int) (x0 : (Nat × Nat) × List (Int × ByteArray × Int) × List (Int × ByteArray × Int)) (y : (Nat × Nat) × List (Int × ByteArray × Int) × List (Int × ByteArray × Int)) := ((y.1.1 < (2 : Nat) ∧ y.1.2 ≤ List.length (lM c f n) ∧ y.2.1 = List.filter (isEnd (List.getD [sA, sB] y.1.1 (ByteArray.mk (Array.mk [])))) (List.take y.1.2 (lM c f n)) ∧ y.2.2 = List.filter (isEnd (List.getD [sB, sA] y.1.1 (ByteArray.mk (Array.mk [])))) (List.take y.1.2 (mM c f n))) ∧ x0.1.1 = y.1.1)
def vc12_7 (c : Cab) (f : Flt) (n : Int) (x : Nat) := ((List.getD (arrP c (f.1, f.2.1, f.2.2.1 + (7 : Int), f.2.2.2) (wn n)) x (vc12_2 c f n)).1 == (List.getD (lM c f n) x (vc12_2 c f n)).1 + (7 : Int) && (ByteArray.toList (List.getD (arrP c (f.1, f.2.1, f.2.2.1 + (7 : Int), f.2.2.2) (wn n)) x (vc12_2 c f n)).2.1 == ByteArray.toList (List.getD (lM c f n) x (vc12_2 c f n)).2.1 && ((List.getD (arrP c (f.1, f.2.1, f.2.2.1 + (7 : Int), f.2.2.2) (wn n)) x (vc12_2 c f n)).2.2 == (List.getD (lM c f n) x (vc12_2 c f n)).2.2 && true)))
def vc12_8 (c : Cab) (f : Flt) (n : Int) (x_2 : (Nat × Nat) × List Arr × List Arr) := (((0 : Int) ≤ (↑x_2.1.2 : Int) ∧ (↑x_2.1.2 : Int) < (↑(List.length x_2.2.1) : Int)) ∧ ((0 : Int) ≤ (↑x_2.1.2 : Int) ∧ (↑x_2.1.2 : Int) < (↑(List.length x_2.2.1) : Int)) ∧ ((0 : Int) ≤ (↑x_2.1.2 : Int) ∧ (↑x_2.1.2 : Int) < (↑(List.length x_2.2.2) : Int)) ∧ ((0 : Int) ≤ (↑x_2.1.2 : Int) ∧ (↑x_2.1.2 : Int) < (↑(List.length x_2.2.2) : Int)) ∧ (((List.getD x_2.2.1 x_2.1.2 (vc12_2 c f n)).1 != (List.getD x_2.2.2 x_2.1.2 (vc12_2 c f n)).1) = false → (0 : Int) ≤ (↑x_2.1.2 : Int) ∧ (↑x_2.1.2 : Int) < (↑(List.length x_2.2.1) : Int)) ∧ (((List.getD x_2.2.1 x_2.1.2 (vc12_2 c f n)).1 != (List.getD x_2.2.2 x_2.1.2 (vc12_2 c f n)).1) = false → (0 : Int) ≤ (↑x_2.1.2 : Int) ∧ (↑x_2.1.2 : Int) < (↑(List.length x_2.2.1) : Int)) ∧ (((List.getD x_2.2.1 x_2.1.2 (vc12_2 c f n)).1 != (List.getD x_2.2.2 x_2.1.2 (vc12_2 c f n)).1) = false → (0 : Int) ≤ (↑x_2.1.2 : Int) ∧ (↑x_2.1.2 : Int) < (↑(List.length x_2.2.2) : Int)) ∧ (((List.getD x_2.2.1 x_2.1.2 (vc12_2 c f n)).1 != (List.getD x_2.2.2 x_2.1.2 (vc12_2 c f n)).1) = false → (0 : Int) ≤ (↑x_2.1.2 : Int) ∧ (↑x_2.1.2 : Int) < (↑(List.length x_2.2.2) : Int)))
def vc12_9 (c : Cab) (f : Flt) (n : Int) := (bif bif bif bif bif bif bif winS (vc12_5 c f n) (f.1, f.2.1, f.2.2.1, (2 : Int) * f.2.2.2) (wn n) != (0 : Int) then true else winS (vc12_5 c f n) (f.1, f.2.1, f.2.2.1, (0 : Int) - f.2.2.2) (wn n) != (0 : Int) then true else winS (vc12_5 c f n) (f.1, f.2.1, f.2.2.1 + (7 : Int), f.2.2.2) (wn n) != (0 : Int) then true else winS (vc12_5 c f n) (f.1, f.2.1, f.2.2.1, f.2.2.2) (wn n + (9 : Int)) != (0 : Int) then true else (↑(List.length (arrP (vc12_5 c f n) (f.1, f.2.1, f.2.2.1, (2 : Int) * f.2.2.2) (wn n))) : Int) != (↑(List.length (lM c f n)) : Int) then true else (↑(List.length (arrP (vc12_5 c f n) (f.1, f.2.1, f.2.2.1, (0 : Int) - f.2.2.2) (wn n))) : Int) != (↑(List.length (lM c f n)) : Int) then true else (↑(List.length (arrP (vc12_5 c f n) (f.1, f.2.1, f.2.2.1 + (7 : Int), f.2.2.2) (wn n))) : Int) != (↑(List.length (lM c f n)) : Int) then true else decide ((↑(List.length (arrP (vc12_5 c f n) (f.1, f.2.1, f.2.2.1, f.2.2.2) (wn n + (9 : Int)))) : Int) < (↑(List.length (lM c f n)) : Int)))
def vc12_10 (c : Cab) (f : Flt) (n : Int) := ((bif bif bif bif bif bif cabS (vc12_1 c f n) != (0 : Int) then true else fltS (vc12_1 c f n) (vc12_0 c f n) != (0 : Int) then true else winS (vc12_5 c f n) (f.1, f.2.1, f.2.2.1, f.2.2.2) (Int.tmod n (201 : Int)) != (0 : Int) then true else winS (vc12_1 c f n) (vc12_0 c f n) (Int.tmod n (201 : Int)) != (0 : Int) then true else !decide (((revP (vc12_1 c f n)).1, (revP (vc12_1 c f n)).2.1, (revP (vc12_1 c f n)).2.2.1, (revP (vc12_1 c f n)).2.2.2) = (vc12_5 c f n)) then true else !((turnP (vc12_1 c f n) (vc12_0 c f n)).1 == f.1 && ((turnP (vc12_1 c f n) (vc12_0 c f n)).2.1 == f.2.1 && ((turnP (vc12_1 c f n) (vc12_0 c f n)).2.2.1 == f.2.2.1 && ((turnP (vc12_1 c f n) (vc12_0 c f n)).2.2.2 == f.2.2.2 && true)))) then true else (↑(List.length (arrP (vc12_5 c f n) (f.1, f.2.1, f.2.2.1, f.2.2.2) (Int.tmod n (201 : Int)))) : Int) != (↑(List.length (arrP (vc12_1 c f n) (vc12_0 c f n) (Int.tmod n (201 : Int)))) : Int)) = false → List.length (arrP (vc12_5 c f n) (f.1, f.2.1, f.2.2.1, f.2.2.2) (Int.tmod n (201 : Int))) ≤ (1000000 : Nat))
def vc12_11 (c : Cab) (f : Flt) (n : Int) := (bif bif bif bif bif bif bif cabS (vc12_1 c f n) != (0 : Int) then true else fltS (vc12_1 c f n) (vc12_0 c f n) != (0 : Int) then true else winS (vc12_5 c f n) (f.1, f.2.1, f.2.2.1, f.2.2.2) (Int.tmod n (201 : Int)) != (0 : Int) then true else winS (vc12_1 c f n) (vc12_0 c f n) (Int.tmod n (201 : Int)) != (0 : Int) then true else !decide (((revP (vc12_1 c f n)).1, (revP (vc12_1 c f n)).2.1, (revP (vc12_1 c f n)).2.2.1, (revP (vc12_1 c f n)).2.2.2) = (vc12_5 c f n)) then true else !((turnP (vc12_1 c f n) (vc12_0 c f n)).1 == f.1 && ((turnP (vc12_1 c f n) (vc12_0 c f n)).2.1 == f.2.1 && ((turnP (vc12_1 c f n) (vc12_0 c f n)).2.2.1 == f.2.2.1 && ((turnP (vc12_1 c f n) (vc12_0 c f n)).2.2.2 == f.2.2.2 && true)))) then true else (↑(List.length (arrP (vc12_5 c f n) (f.1, f.2.1, f.2.2.1, f.2.2.2) (Int.tmod n (201 : Int)))) : Int) != (↑(List.length (arrP (vc12_1 c f n) (vc12_0 c f n) (Int.tmod n (201 : Int)))) : Int) then true else arrE (arrP (vc12_5 c f n) (f.1, f.2.1, f.2.2.1, f.2.2.2) (Int.tmod n (201 : Int))) != (0 : Int))
def vc12_12 (c : Cab) (f : Flt) (n : Int) (x_1 : (Nat × Nat) × List Arr × List Arr) (y : (Nat × Nat) × List (Int × ByteArray × Int) × List (Int × ByteArray × Int)) := (wn n = wn n ∧ List.getD [sA, sB] x_1.1.1 (ByteArray.mk (Array.mk [])) = List.getD [sA, sB] y.1.1 (ByteArray.mk (Array.mk [])) ∧ List.getD [sB, sA] x_1.1.1 (ByteArray.mk (Array.mk [])) = List.getD [sB, sA] y.1.1 (ByteArray.mk (Array.mk [])) ∧ (2 : Int) = (2 : Int) ∧ (↑x_1.1.1 : Int) = (↑y.1.1 : Int) ∧ (↑(List.length (lM c f n)) : Int) = (↑(List.length (lM c f n)) : Int) ∧ (↑x_1.1.2 : Int) + (1 : Int) = (↑y.1.2 : Int) ∧ c.1 = c.1 ∧ c.2.1 = c.2.1 ∧ c.2.2.1 = c.2.2.1 ∧ c.2.2.2 = c.2.2.2 ∧ f.1 = f.1 ∧ f.2.1 = f.2.1 ∧ f.2.2.1 = f.2.2.1 ∧ f.2.2.2 = f.2.2.2 ∧ lM c f n = lM c f n ∧ mM c f n = mM c f n ∧ x_1.2.1 ++ [((List.getD (lM c f n) x_1.1.2 (vc12_2 c f n)).1, (List.getD (lM c f n) x_1.1.2 (vc12_2 c f n)).2.1, (List.getD (lM c f n) x_1.1.2 (vc12_2 c f n)).2.2)] = y.2.1 ∧ x_1.2.2 ++ [((List.getD (mM c f n) x_1.1.2 (vc12_2 c f n)).1, (List.getD (mM c f n) x_1.1.2 (vc12_2 c f n)).2.1, (List.getD (mM c f n) x_1.1.2 (vc12_2 c f n)).2.2)] = y.2.2 ∧ [sA, sB] = [sA, sB])
def vc12_13 (c : Cab) (f : Flt) (n : Int) (x_1 : (Nat × Nat) × List Arr × List Arr) := (ByteArray.toList (List.getD (mM c f n) x_1.1.2 (vc12_2 c f n)).2.1 == ByteArray.toList (List.getD [sB, sA] x_1.1.1 (ByteArray.mk (Array.mk []))))
def vc12_14 (c : Cab) (f : Flt) (n : Int) := (bif bif bif cabS (vc12_1 c f n) != (0 : Int) then true else fltS (vc12_1 c f n) (vc12_0 c f n) != (0 : Int) then true else winS (vc12_5 c f n) (f.1, f.2.1, f.2.2.1, f.2.2.2) (Int.tmod n (201 : Int)) != (0 : Int) then true else winS (vc12_1 c f n) (vc12_0 c f n) (Int.tmod n (201 : Int)) != (0 : Int))
def vc12_15 (c : Cab) (f : Flt) (n : Int) (x_1 : (Nat × Nat) × List Arr × List Arr) (y : (Nat × Nat) × List (Int × ByteArray × Int) × List (Int × ByteArray × Int)) := (wn n = wn n ∧ List.getD [sA, sB] x_1.1.1 (ByteArray.mk (Array.mk [])) = List.getD [sA, sB] y.1.1 (ByteArray.mk (Array.mk [])) ∧ List.getD [sB, sA] x_1.1.1 (ByteArray.mk (Array.mk [])) = List.getD [sB, sA] y.1.1 (ByteArray.mk (Array.mk [])) ∧ (2 : Int) = (2 : Int) ∧ (↑x_1.1.1 : Int) = (↑y.1.1 : Int) ∧ (↑(List.length (lM c f n)) : Int) = (↑(List.length (lM c f n)) : Int) ∧ (↑x_1.1.2 : Int) + (1 : Int) = (↑y.1.2 : Int) ∧ c.1 = c.1 ∧ c.2.1 = c.2.1 ∧ c.2.2.1 = c.2.2.1 ∧ c.2.2.2 = c.2.2.2 ∧ f.1 = f.1 ∧ f.2.1 = f.2.1 ∧ f.2.2.1 = f.2.2.1 ∧ f.2.2.2 = f.2.2.2 ∧ lM c f n = lM c f n ∧ mM c f n = mM c f n ∧ x_1.2.1 ++ [((List.getD (lM c f n) x_1.1.2 (vc12_2 c f n)).1, (List.getD (lM c f n) x_1.1.2 (vc12_2 c f n)).2.1, (List.getD (lM c f n) x_1.1.2 (vc12_2 c f n)).2.2)] = y.2.1 ∧ x_1.2.2 = y.2.2 ∧ [sA, sB] = [sA, sB])
def vc12_16 (c : Cab) (f : Flt) (n : Int) (x_1 : (Nat × Nat) × List Arr × List Arr) (y : (Nat × Nat) × List (Int × ByteArray × Int) × List (Int × ByteArray × Int)) := (wn n = wn n ∧ List.getD [sA, sB] x_1.1.1 (ByteArray.mk (Array.mk [])) = List.getD [sA, sB] y.1.1 (ByteArray.mk (Array.mk [])) ∧ List.getD [sB, sA] x_1.1.1 (ByteArray.mk (Array.mk [])) = List.getD [sB, sA] y.1.1 (ByteArray.mk (Array.mk [])) ∧ (2 : Int) = (2 : Int) ∧ (↑x_1.1.1 : Int) = (↑y.1.1 : Int) ∧ (↑(List.length (lM c f n)) : Int) = (↑(List.length (lM c f n)) : Int) ∧ (↑x_1.1.2 : Int) + (1 : Int) = (↑y.1.2 : Int) ∧ c.1 = c.1 ∧ c.2.1 = c.2.1 ∧ c.2.2.1 = c.2.2.1 ∧ c.2.2.2 = c.2.2.2 ∧ f.1 = f.1 ∧ f.2.1 = f.2.1 ∧ f.2.2.1 = f.2.2.1 ∧ f.2.2.2 = f.2.2.2 ∧ lM c f n = lM c f n ∧ mM c f n = mM c f n ∧ x_1.2.1 = y.2.1 ∧ x_1.2.2 ++ [((List.getD (mM c f n) x_1.1.2 (vc12_2 c f n)).1, (List.getD (mM c f n) x_1.1.2 (vc12_2 c f n)).2.1, (List.getD (mM c f n) x_1.1.2 (vc12_2 c f n)).2.2)] = y.2.2 ∧ [sA, sB] = [sA, sB])
def vc12_17 (c : Cab) (f : Flt) (n : Int) (x_1 : (Nat × Nat) × List Arr × List Arr) := ((0 : Int) ≤ (↑x_1.1.2 : Int) ∧ (↑x_1.1.2 : Int) < (↑(List.length (mM c f n)) : Int))
def vc12_18 (c : Cab) (f : Flt) (n : Int) (x_1 : (Nat × Nat) × List Arr × List Arr) := ((-9223372036854775808 : Int) ≤ (↑x_1.1.2 : Int) + (1 : Int) ∧ (↑x_1.1.2 : Int) + (1 : Int) ≤ (9223372036854775807 : Int))
def vc12_19 (c : Cab) (f : Flt) (n : Int) := (List.length c.1 ≤ (1000000 : Nat) ∧ List.length c.2.1 ≤ (1000000 : Nat) ∧ List.length c.1 ≤ (1000000 : Nat) ∧ List.length c.2.1 ≤ (1000000 : Nat))
def vc12_20 (c : Cab) (f : Flt) (n : Int) := (List.length (revP (vc12_5 c f n)).1 ≤ (1000000 : Nat) ∧ List.length (revP (vc12_5 c f n)).2.1 ≤ (1000000 : Nat) ∧ List.length (revP (vc12_5 c f n)).1 ≤ (1000000 : Nat) ∧ List.length (revP (vc12_5 c f n)).2.1 ≤ (1000000 : Nat) ∧ List.length (revP (vc12_5 c f n)).1 ≤ (1000000 : Nat) ∧ List.length (revP (vc12_5 c f n)).2.1 ≤ (1000000 : Nat))
def vc12_21 (c : Cab) (f : Flt) (n : Int) (x_2 : (Nat × Nat) × List Arr × List Arr) := (bif (List.getD x_2.2.1 x_2.1.2 (vc12_2 c f n)).1 != (List.getD x_2.2.2 x_2.1.2 (vc12_2 c f n)).1 then true else (List.getD x_2.2.1 x_2.1.2 (vc12_2 c f n)).2.2 != (List.getD x_2.2.2 x_2.1.2 (vc12_2 c f n)).2.2)
def vc12_22 (c : Cab) (f : Flt) (n : Int) (x_1 : (Nat × Nat) × List Arr × List Arr) (y : (Nat × Nat) × List (Int × ByteArray × Int) × List (Int × ByteArray × Int)) := (wn n = wn n ∧ List.getD [sA, sB] x_1.1.1 (ByteArray.mk (Array.mk [])) = List.getD [sA, sB] y.1.1 (ByteArray.mk (Array.mk [])) ∧ List.getD [sB, sA] x_1.1.1 (ByteArray.mk (Array.mk [])) = List.getD [sB, sA] y.1.1 (ByteArray.mk (Array.mk [])) ∧ (2 : Int) = (2 : Int) ∧ (↑x_1.1.1 : Int) = (↑y.1.1 : Int) ∧ (↑(List.length (lM c f n)) : Int) = (↑(List.length (lM c f n)) : Int) ∧ (↑x_1.1.2 : Int) + (1 : Int) = (↑y.1.2 : Int) ∧ c.1 = c.1 ∧ c.2.1 = c.2.1 ∧ c.2.2.1 = c.2.2.1 ∧ c.2.2.2 = c.2.2.2 ∧ f.1 = f.1 ∧ f.2.1 = f.2.1 ∧ f.2.2.1 = f.2.2.1 ∧ f.2.2.2 = f.2.2.2 ∧ lM c f n = lM c f n ∧ mM c f n = mM c f n ∧ x_1.2.1 = y.2.1 ∧ x_1.2.2 = y.2.2 ∧ [sA, sB] = [sA, sB])
def vc12_23 (c : Cab) (f : Flt) (n : Int) (x : Nat) := (bif bif bif !(vc12_3 c f n x) then true else !(vc12_4 c f n x) then true else !(vc12_7 c f n x) then true else !((List.getD (arrP c f (wn n + (9 : Int))) x (vc12_2 c f n)).1 == (List.getD (lM c f n) x (vc12_2 c f n)).1 && (ByteArray.toList (List.getD (arrP c f (wn n + (9 : Int))) x (vc12_2 c f n)).2.1 == ByteArray.toList (List.getD (lM c f n) x (vc12_2 c f n)).2.1 && ((List.getD (arrP c f (wn n + (9 : Int))) x (vc12_2 c f n)).2.2 == (List.getD (lM c f n) x (vc12_2 c f n)).2.2 && true))))
def vc12_24 (c : Cab) (f : Flt) (n : Int) (x_2 : (Nat × Nat) × List Arr × List Arr) (y : (Nat × Nat) × List (Int × ByteArray × Int) × List (Int × ByteArray × Int)) := (wn n = wn n ∧ (2 : Int) = (2 : Int) ∧ (↑x_2.1.1 : Int) = (↑y.1.1 : Int) ∧ (↑(List.length x_2.2.1) : Int) = (↑(List.length y.2.1) : Int) ∧ (↑x_2.1.2 : Int) + (1 : Int) = (↑y.1.2 : Int) ∧ c.1 = c.1 ∧ c.2.1 = c.2.1 ∧ c.2.2.1 = c.2.2.1 ∧ c.2.2.2 = c.2.2.2 ∧ f.1 = f.1 ∧ f.2.1 = f.2.1 ∧ f.2.2.1 = f.2.2.1 ∧ f.2.2.2 = f.2.2.2 ∧ lM c f n = lM c f n ∧ mM c f n = mM c f n ∧ x_2.2.1 = y.2.1 ∧ x_2.2.2 = y.2.2 ∧ [sA, sB] = [sA, sB])
def vc12_25 (c : Cab) (f : Flt) (n : Int) (x_1 : (Nat × Nat) × List Arr × List Arr) := (ByteArray.toList (List.getD (lM c f n) x_1.1.2 (vc12_2 c f n)).2.1 == ByteArray.toList (List.getD [sA, sB] x_1.1.1 (ByteArray.mk (Array.mk []))))
def vc12_26 (c : Cab) (f : Flt) (n : Int) := (bif cabS (vc12_5 c f n) != (0 : Int) then true else fltS (vc12_5 c f n) (f.1, f.2.1, f.2.2.1, f.2.2.2) != (0 : Int))
def vc12_27 (c : Cab) (f : Flt) (n : Int) (x0 : (Nat × Nat) × List (Int × ByteArray × Int) × List (Int × ByteArray × Int)) (x_1 : (Nat × Nat) × List Arr × List Arr) := (wn n = wn n ∧ (2 : Int) = (2 : Int) ∧ (↑x_1.1.1 : Int) = (↑x0.1.1 : Int) ∧ (↑(List.length x_1.2.1) : Int) = (↑(List.length x0.2.1) : Int) ∧ (0 : Int) = (↑x0.1.2 : Int) ∧ c.1 = c.1 ∧ c.2.1 = c.2.1 ∧ c.2.2.1 = c.2.2.1 ∧ c.2.2.2 = c.2.2.2 ∧ f.1 = f.1 ∧ f.2.1 = f.2.1 ∧ f.2.2.1 = f.2.2.1 ∧ f.2.2.2 = f.2.2.2 ∧ lM c f n = lM c f n ∧ mM c f n = mM c f n ∧ x_1.2.1 = x0.2.1 ∧ x_1.2.2 = x0.2.2 ∧ [sA, sB] = [sA, sB])
def vc12_28 (c : Cab) (f : Flt) (n : Int) (x_1 : (Nat × Nat) × List Arr × List Arr) := ((0 : Int) ≤ (↑x_1.1.2 : Int) ∧ (↑x_1.1.2 : Int) < (↑(List.length (lM c f n)) : Int))
def vc12_29 (c : Cab) (f : Flt) (n : Int) := (bif bif bif bif bif false then true else !shortS (vc12_5 c f n) then true else fltS (vc12_5 c f n) (f.1, f.2.1, f.2.2.1, f.2.2.2) != (0 : Int) then true else decide ((500 : Int) < f.2.2.2) then true else decide (f.2.2.2 < (-500 : Int)) then true else decide ((99000 : Int) < f.2.2.1))
def vc12_30 (c : Cab) (f : Flt) (n : Int) (x_2 : (Nat × Nat) × List Arr × List Arr) (y : Nat) := (wn n = wn n ∧ (2 : Int) = (2 : Int) ∧ (↑x_2.1.1 : Int) + (1 : Int) = (↑y : Int) ∧ c.1 = c.1 ∧ c.2.1 = c.2.1 ∧ c.2.2.1 = c.2.2.1 ∧ c.2.2.2 = c.2.2.2 ∧ f.1 = f.1 ∧ f.2.1 = f.2.1 ∧ f.2.2.1 = f.2.2.1 ∧ f.2.2.2 = f.2.2.2 ∧ lM c f n = lM c f n ∧ mM c f n = mM c f n ∧ [sA, sB] = [sA, sB])
def vc12_31 (c : Cab) (f : Flt) (n : Int) (x_1 : (Nat × Nat) × List Arr × List Arr) := (x_1.1.1 < (2 : Nat) ∧ x_1.1.2 ≤ List.length (lM c f n) ∧ x_1.2.1 = List.filter (isEnd (List.getD [sA, sB] x_1.1.1 (ByteArray.mk (Array.mk [])))) (List.take x_1.1.2 (lM c f n)) ∧ x_1.2.2 = List.filter (isEnd (List.getD [sB, sA] x_1.1.1 (ByteArray.mk (Array.mk [])))) (List.take x_1.1.2 (mM c f n)))
def vc12_32 (c : Cab) (f : Flt) (n : Int) (x_1 : (Nat × Nat) × List Arr × List Arr) := ((vc12_17 c f n x_1) ∧ (vc12_17 c f n x_1) ∧ (List.length x_1.2.2 + (1 : Nat)) * (32 : Nat) ≤ (140737488355328 : Nat))
def vc12_33 (c : Cab) (f : Flt) (n : Int) (x0 : (Nat × Nat) × List (Int × ByteArray × Int) × List (Int × ByteArray × Int)) := ((x0.1.1 < (2 : Nat) ∧ x0.1.2 ≤ List.length (lM c f n) ∧ x0.2.1 = List.filter (isEnd (List.getD [sA, sB] x0.1.1 (ByteArray.mk (Array.mk [])))) (List.take x0.1.2 (lM c f n)) ∧ x0.2.2 = List.filter (isEnd (List.getD [sB, sA] x0.1.1 (ByteArray.mk (Array.mk [])))) (List.take x0.1.2 (mM c f n))) ∧ x0.1.1 = x0.1.1)
def vc12_34 (c : Cab) (f : Flt) (n : Int) (x_1 : (Nat × Nat) × List Arr × List Arr) := ((vc12_17 c f n x_1) ∧ (0 : Int) ≤ (↑x_1.1.2 : Int) ∧ (↑x_1.1.2 : Int) < (↑(List.length (mM c f n)) : Int))
def vc12_35 (c : Cab) (f : Flt) (n : Int) := (f.1, f.2.1, f.2.2.1, (2 : Int) * f.2.2.2)
def vc12_36 (c : Cab) (f : Flt) (n : Int) := (f.1, f.2.1, f.2.2.1, (0 : Int) - f.2.2.2)
def vc12_37 (c : Cab) (f : Flt) (n : Int) := (f.1, f.2.1, f.2.2.1 + (7 : Int), f.2.2.2)
def vc12_38 (c : Cab) (f : Flt) (n : Int) (x0 : (Nat × Nat) × List (Int × ByteArray × Int) × List (Int × ByteArray × Int)) := ((x0.1.1 < (2 : Nat) ∧ x0.1.2 ≤ List.length x0.2.1 ∧ x0.2.1 = List.filter (isEnd (List.getD [sA, sB] x0.1.1 (ByteArray.mk (Array.mk [])))) (lM c f n) ∧ x0.2.2 = List.filter (isEnd (List.getD [sB, sA] x0.1.1 (ByteArray.mk (Array.mk [])))) (mM c f n)) ∧ x0.1.1 = x0.1.1 ∧ x0.2 = x0.2)
def vc12_39 (c : Cab) (f : Flt) (n : Int) (x_2 : (Nat × Nat) × List Arr × List Arr) := (x_2.1.1 < (2 : Nat) ∧ x_2.1.2 ≤ List.length x_2.2.1 ∧ x_2.2.1 = List.filter (isEnd (List.getD [sA, sB] x_2.1.1 (ByteArray.mk (Array.mk [])))) (lM c f n) ∧ x_2.2.2 = List.filter (isEnd (List.getD [sB, sA] x_2.1.1 (ByteArray.mk (Array.mk [])))) (mM c f n))
def vc12_40 (c : Cab) (f : Flt) (n : Int) := (bif bif cabS (vc12_5 c f n) != (0 : Int) then true else fltS (vc12_5 c f n) (f.1, f.2.1, f.2.2.1, f.2.2.2) != (0 : Int) then true else fltS (vc12_1 c f n) (vc12_0 c f n) != (0 : Int))
theorem vc12 : ∀ (c : Cab) (f : Flt) (n : Int), wpF Tryz.prog G132 (annMi c f n) Tryz.f12 cMirrorsL (c, f, n, ()) = (0 ≤ n ∧ n ≤ 255 → (((bif false then true else !shortS (vc12_5 c f n)) = false → List.length c.1 ≤ 1000000) ∧ ((bif false then true else !shortS (vc12_5 c f n)) = false → List.length c.2.1 ≤ 1000000)) ∧ ((vc12_29 c f n) = true → true = true) ∧ ((vc12_29 c f n) = false → ((I64 n) ∧ ((201 : Int) = 0 → False)) ∧ (vc12_19 c f n) ∧ (vc12_19 c f n) ∧ (((vc12_26 c f n) = false → List.length (revP (vc12_5 c f n)).1 ≤ 1000000) ∧ ((vc12_26 c f n) = false → List.length (revP (vc12_5 c f n)).2.1 ≤ 1000000) ∧ ((vc12_26 c f n) = false → List.length (revP (vc12_5 c f n)).1 ≤ 1000000) ∧ ((vc12_26 c f n) = false → List.length (revP (vc12_5 c f n)).2.1 ≤ 1000000)) ∧ ((vc12_40 c f n) = true → false = true) ∧ ((vc12_40 c f n) = false → (vc12_20 c f n) ∧ (vc12_20 c f n) ∧ (vc12_19 c f n) ∧ (vc12_20 c f n) ∧ (((vc12_14 c f n) = false → List.length (revP (vc12_1 c f n)).1 ≤ 1000000) ∧ ((vc12_14 c f n) = false → List.length (revP (vc12_1 c f n)).2.1 ≤ 1000000) ∧ ((vc12_14 c f n) = false → List.length (revP (vc12_1 c f n)).1 ≤ 1000000) ∧ ((vc12_14 c f n) = false → List.length (revP (vc12_1 c f n)).2.1 ≤ 1000000) ∧ (vc12_10 c f n) ∧ (vc12_10 c f n)) ∧ ((vc12_11 c f n) = true → false = true) ∧ ((vc12_11 c f n) = false → ∃ (x : Nat), (Int.tmod n 201 = wn n ∧ (2 : Int) = 2 ∧ 0 = (↑x : Int) ∧ c.1 = c.1 ∧ c.2.1 = c.2.1 ∧ c.2.2.1 = c.2.2.1 ∧ c.2.2.2 = c.2.2.2 ∧ f.1 = f.1 ∧ f.2.1 = f.2.1 ∧ f.2.2.1 = f.2.2.1 ∧ f.2.2.2 = f.2.2.2 ∧ arrP (vc12_5 c f n) (f.1, f.2.1, f.2.2.1, f.2.2.2) (Int.tmod n 201) = lM c f n ∧ arrP (vc12_1 c f n) (vc12_0 c f n) (Int.tmod n 201) = mM c f n ∧ [ByteArray.mk (Array.mk [(65 : UInt8)]), ByteArray.mk (Array.mk [(66 : UInt8)])] = [sA, sB]) ∧ x ≤ 2 ∧ ∀ (x : Nat), x ≤ 2 → (decide ((↑x : Int) < 2) = true → ((0 ≤ (↑x : Int) ∧ (↑x : Int) < 2) ∧ 0 ≤ (↑x : Int) ∧ (↑x : Int) < 2) ∧ ((ByteArray.toList (List.getD [sA, sB] x (ByteArray.mk (Array.mk []))) == ByteArray.toList (ByteArray.mk (Array.mk [(66 : UInt8)]))) = true → ∃ (x0 : (Nat × Nat) × List (Int × ByteArray × Int) × List (Int × ByteArray × Int)), (wn n = wn n ∧ List.getD [sA, sB] x (ByteArray.mk (Array.mk [])) = List.getD [sA, sB] x0.1.1 (ByteArray.mk (Array.mk [])) ∧ ByteArray.mk (Array.mk [(65 : UInt8)]) = List.getD [sB, sA] x0.1.1 (ByteArray.mk (Array.mk [])) ∧ (2 : Int) = 2 ∧ (↑x : Int) = (↑x0.1.1 : Int) ∧ (↑(List.length (lM c f n)) : Int) = (↑(List.length (lM c f n)) : Int) ∧ 0 = (↑x0.1.2 : Int) ∧ c.1 = c.1 ∧ c.2.1 = c.2.1 ∧ c.2.2.1 = c.2.2.1 ∧ c.2.2.2 = c.2.2.2 ∧ f.1 = f.1 ∧ f.2.1 = f.2.1 ∧ f.2.2.1 = f.2.2.1 ∧ f.2.2.2 = f.2.2.2 ∧ lM c f n = lM c f n ∧ mM c f n = mM c f n ∧ List.length x0.2.1 = 0 ∧ List.length x0.2.2 = 0 ∧ [sA, sB] = [sA, sB]) ∧ (vc12_33 c f n x0) ∧ ∀ (x_1 : (Nat × Nat) × List Arr × List Arr), (vc12_31 c f n x_1) ∧ x0.1.1 = x_1.1.1 → (decide ((↑x_1.1.2 : Int) < (↑(List.length (lM c f n)) : Int)) = true → ((vc12_28 c f n x_1) ∧ 0 ≤ (↑x_1.1.2 : Int) ∧ (↑x_1.1.2 : Int) < (↑(List.length (lM c f n)) : Int)) ∧ ((vc12_25 c f n x_1) = true → ((vc12_28 c f n x_1) ∧ (vc12_28 c f n x_1) ∧ (List.length x_1.2.1 + 1) * 32 ≤ 140737488355328) ∧ (vc12_34 c f n x_1) ∧ ((vc12_13 c f n x_1) = true → (vc12_32 c f n x_1) ∧ (vc12_18 c f n x_1) ∧ ∃ (y : (Nat × Nat) × List (Int × ByteArray × Int) × List (Int × ByteArray × Int)), (vc12_12 c f n x_1 y) ∧ (vc12_6 c f n x0 y) ∧ List.length (lM c f n) - y.1.2 < List.length (lM c f n) - x_1.1.2) ∧ ((vc12_13 c f n x_1) = false → (vc12_18 c f n x_1) ∧ ∃ (y : (Nat × Nat) × List (Int × ByteArray × Int) × List (Int × ByteArray × Int)), (vc12_15 c f n x_1 y) ∧ (vc12_6 c f n x0 y) ∧ List.length (lM c f n) - y.1.2 < List.length (lM c f n) - x_1.1.2)) ∧ ((vc12_25 c f n x_1) = false → (vc12_34 c f n x_1) ∧ ((vc12_13 c f n x_1) = true → (vc12_32 c f n x_1) ∧ (vc12_18 c f n x_1) ∧ ∃ (y : (Nat × Nat) × List (Int × ByteArray × Int) × List (Int × ByteArray × Int)), (vc12_16 c f n x_1 y) ∧ (vc12_6 c f n x0 y) ∧ List.length (lM c f n) - y.1.2 < List.length (lM c f n) - x_1.1.2) ∧ ((vc12_13 c f n x_1) = false → (vc12_18 c f n x_1) ∧ ∃ (y : (Nat × Nat) × List (Int × ByteArray × Int) × List (Int × ByteArray × Int)), (vc12_22 c f n x_1 y) ∧ (vc12_6 c f n x0 y) ∧ List.length (lM c f n) - y.1.2 < List.length (lM c f n) - x_1.1.2))) ∧ (decide ((↑x_1.1.2 : Int) < (↑(List.length (lM c f n)) : Int)) = false → (((↑(List.length x_1.2.1) : Int) != (↑(List.length x_1.2.2) : Int)) = true → false = true) ∧ (((↑(List.length x_1.2.1) : Int) != (↑(List.length x_1.2.2) : Int)) = false → ∃ (x0 : (Nat × Nat) × List (Int × ByteArray × Int) × List (Int × ByteArray × Int)), (vc12_27 c f n x0 x_1) ∧ (vc12_38 c f n x0) ∧ ∀ (x_2 : (Nat × Nat) × List Arr × List Arr), (vc12_39 c f n x_2) ∧ x0.1.1 = x_2.1.1 ∧ x0.2 = x_2.2 → (decide ((↑x_2.1.2 : Int) < (↑(List.length x_2.2.1) : Int)) = true → (vc12_8 c f n x_2) ∧ ((vc12_21 c f n x_2) = true → false = true) ∧ ((vc12_21 c f n x_2) = false → ((-9223372036854775808) ≤ (↑x_2.1.2 : Int) + 1 ∧ (↑x_2.1.2 : Int) + (1 : Int) ≤ 9223372036854775807) ∧ ∃ (y : (Nat × Nat) × List (Int × ByteArray × Int) × List (Int × ByteArray × Int)), (vc12_24 c f n x_2 y) ∧ ((y.1.1 < 2 ∧ y.1.2 ≤ List.length y.2.1 ∧ y.2.1 = List.filter (isEnd (List.getD [sA, sB] y.1.1 (ByteArray.mk (Array.mk [])))) (lM c f n) ∧ y.2.2 = List.filter (isEnd (List.getD [sB, sA] y.1.1 (ByteArray.mk (Array.mk [])))) (mM c f n)) ∧ x0.1.1 = y.1.1 ∧ x0.2 = y.2) ∧ List.length y.2.1 - y.1.2 < List.length x_2.2.1 - x_2.1.2)) ∧ (decide ((↑x_2.1.2 : Int) < (↑(List.length x_2.2.1) : Int)) = false → ((-9223372036854775808) ≤ (↑x_2.1.1 : Int) + 1 ∧ (↑x_2.1.1 : Int) + (1 : Int) ≤ 9223372036854775807) ∧ ∃ (y : Nat), (vc12_30 c f n x_2 y) ∧ y ≤ 2 ∧ 2 - y < 2 - x)))) ∧ ((ByteArray.toList (List.getD [sA, sB] x (ByteArray.mk (Array.mk []))) == ByteArray.toList (ByteArray.mk (Array.mk [(66 : UInt8)]))) = false → ∃ (x0 : (Nat × Nat) × List (Int × ByteArray × Int) × List (Int × ByteArray × Int)), (wn n = wn n ∧ List.getD [sA, sB] x (ByteArray.mk (Array.mk [])) = List.getD [sA, sB] x0.1.1 (ByteArray.mk (Array.mk [])) ∧ ByteArray.mk (Array.mk [(66 : UInt8)]) = List.getD [sB, sA] x0.1.1 (ByteArray.mk (Array.mk [])) ∧ (2 : Int) = 2 ∧ (↑x : Int) = (↑x0.1.1 : Int) ∧ (↑(List.length (lM c f n)) : Int) = (↑(List.length (lM c f n)) : Int) ∧ 0 = (↑x0.1.2 : Int) ∧ c.1 = c.1 ∧ c.2.1 = c.2.1 ∧ c.2.2.1 = c.2.2.1 ∧ c.2.2.2 = c.2.2.2 ∧ f.1 = f.1 ∧ f.2.1 = f.2.1 ∧ f.2.2.1 = f.2.2.1 ∧ f.2.2.2 = f.2.2.2 ∧ lM c f n = lM c f n ∧ mM c f n = mM c f n ∧ List.length x0.2.1 = 0 ∧ List.length x0.2.2 = 0 ∧ [sA, sB] = [sA, sB]) ∧ (vc12_33 c f n x0) ∧ ∀ (x_1 : (Nat × Nat) × List Arr × List Arr), (vc12_31 c f n x_1) ∧ x0.1.1 = x_1.1.1 → (decide ((↑x_1.1.2 : Int) < (↑(List.length (lM c f n)) : Int)) = true → ((vc12_28 c f n x_1) ∧ 0 ≤ (↑x_1.1.2 : Int) ∧ (↑x_1.1.2 : Int) < (↑(List.length (lM c f n)) : Int)) ∧ ((vc12_25 c f n x_1) = true → ((vc12_28 c f n x_1) ∧ (vc12_28 c f n x_1) ∧ (List.length x_1.2.1 + 1) * 32 ≤ 140737488355328) ∧ (vc12_34 c f n x_1) ∧ ((vc12_13 c f n x_1) = true → (vc12_32 c f n x_1) ∧ (vc12_18 c f n x_1) ∧ ∃ (y : (Nat × Nat) × List (Int × ByteArray × Int) × List (Int × ByteArray × Int)), (vc12_12 c f n x_1 y) ∧ (vc12_6 c f n x0 y) ∧ List.length (lM c f n) - y.1.2 < List.length (lM c f n) - x_1.1.2) ∧ ((vc12_13 c f n x_1) = false → (vc12_18 c f n x_1) ∧ ∃ (y : (Nat × Nat) × List (Int × ByteArray × Int) × List (Int × ByteArray × Int)), (vc12_15 c f n x_1 y) ∧ (vc12_6 c f n x0 y) ∧ List.length (lM c f n) - y.1.2 < List.length (lM c f n) - x_1.1.2)) ∧ ((vc12_25 c f n x_1) = false → (vc12_34 c f n x_1) ∧ ((vc12_13 c f n x_1) = true → (vc12_32 c f n x_1) ∧ (vc12_18 c f n x_1) ∧ ∃ (y : (Nat × Nat) × List (Int × ByteArray × Int) × List (Int × ByteArray × Int)), (vc12_16 c f n x_1 y) ∧ (vc12_6 c f n x0 y) ∧ List.length (lM c f n) - y.1.2 < List.length (lM c f n) - x_1.1.2) ∧ ((vc12_13 c f n x_1) = false → (vc12_18 c f n x_1) ∧ ∃ (y : (Nat × Nat) × List (Int × ByteArray × Int) × List (Int × ByteArray × Int)), (vc12_22 c f n x_1 y) ∧ (vc12_6 c f n x0 y) ∧ List.length (lM c f n) - y.1.2 < List.length (lM c f n) - x_1.1.2))) ∧ (decide ((↑x_1.1.2 : Int) < (↑(List.length (lM c f n)) : Int)) = false → (((↑(List.length x_1.2.1) : Int) != (↑(List.length x_1.2.2) : Int)) = true → false = true) ∧ (((↑(List.length x_1.2.1) : Int) != (↑(List.length x_1.2.2) : Int)) = false → ∃ (x0 : (Nat × Nat) × List (Int × ByteArray × Int) × List (Int × ByteArray × Int)), (vc12_27 c f n x0 x_1) ∧ (vc12_38 c f n x0) ∧ ∀ (x_2 : (Nat × Nat) × List Arr × List Arr), (vc12_39 c f n x_2) ∧ x0.1.1 = x_2.1.1 ∧ x0.2 = x_2.2 → (decide ((↑x_2.1.2 : Int) < (↑(List.length x_2.2.1) : Int)) = true → (vc12_8 c f n x_2) ∧ ((vc12_21 c f n x_2) = true → false = true) ∧ ((vc12_21 c f n x_2) = false → ((-9223372036854775808) ≤ (↑x_2.1.2 : Int) + 1 ∧ (↑x_2.1.2 : Int) + (1 : Int) ≤ 9223372036854775807) ∧ ∃ (y : (Nat × Nat) × List (Int × ByteArray × Int) × List (Int × ByteArray × Int)), (vc12_24 c f n x_2 y) ∧ ((y.1.1 < 2 ∧ y.1.2 ≤ List.length y.2.1 ∧ y.2.1 = List.filter (isEnd (List.getD [sA, sB] y.1.1 (ByteArray.mk (Array.mk [])))) (lM c f n) ∧ y.2.2 = List.filter (isEnd (List.getD [sB, sA] y.1.1 (ByteArray.mk (Array.mk [])))) (mM c f n)) ∧ x0.1.1 = y.1.1 ∧ x0.2 = y.2) ∧ List.length y.2.1 - y.1.2 < List.length x_2.2.1 - x_2.1.2)) ∧ (decide ((↑x_2.1.2 : Int) < (↑(List.length x_2.2.1) : Int)) = false → ((-9223372036854775808) ≤ (↑x_2.1.1 : Int) + 1 ∧ (↑x_2.1.1 : Int) + (1 : Int) ≤ 9223372036854775807) ∧ ∃ (y : Nat), (vc12_30 c f n x_2 y) ∧ y ≤ 2 ∧ 2 - y < 2 - x))))) ∧ (decide ((↑x : Int) < 2) = false → (((-9223372036854775808 : Int) ≤ 2 * f.2.2.2 ∧ 2 * f.2.2.2 ≤ 9223372036854775807) ∧ ((-9223372036854775808 : Int) ≤ 0 - f.2.2.2 ∧ 0 - f.2.2.2 ≤ 9223372036854775807) ∧ (-9223372036854775808) ≤ f.2.2.1 + 7 ∧ f.2.2.1 + (7 : Int) ≤ 9223372036854775807) ∧ (vc12_19 c f n) ∧ (vc12_19 c f n) ∧ (vc12_19 c f n) ∧ (List.length c.1 ≤ 1000000 ∧ List.length c.2.1 ≤ 1000000 ∧ ((-9223372036854775808) ≤ wn n + 9 ∧ wn n + (9 : Int) ≤ 9223372036854775807) ∧ List.length c.1 ≤ 1000000 ∧ List.length c.2.1 ≤ 1000000) ∧ ((vc12_9 c f n) = true → false = true) ∧ ((vc12_9 c f n) = false → ∃ (x : Nat), ((↑(List.length (lM c f n)) : Int) = (↑(List.length (lM c f n)) : Int) ∧ 0 = (↑x : Int) ∧ lM c f n = lM c f n ∧ arrP (vc12_5 c f n) (vc12_35 c f n) (wn n) = arrP c (vc12_35 c f n) (wn n) ∧ arrP (vc12_5 c f n) (vc12_36 c f n) (wn n) = arrP c (vc12_36 c f n) (wn n) ∧ arrP (vc12_5 c f n) (vc12_37 c f n) (wn n) = arrP c (vc12_37 c f n) (wn n) ∧ arrP (vc12_5 c f n) (f.1, f.2.1, f.2.2.1, f.2.2.2) (wn n + 9) = arrP c f (wn n + 9)) ∧ x ≤ List.length (lM c f n) ∧ ∀ (x : Nat), x ≤ List.length (lM c f n) → (decide ((↑x : Int) < (↑(List.length (lM c f n)) : Int)) = true → ((0 ≤ (↑x : Int) ∧ (↑x : Int) < (↑(List.length (lM c f n)) : Int)) ∧ 0 ≤ (↑x : Int) ∧ (↑x : Int) < (↑(List.length (lM c f n)) : Int)) ∧ ((0 ≤ (↑x : Int) ∧ (↑x : Int) < (↑(List.length (arrP c (vc12_35 c f n) (wn n))) : Int)) ∧ (0 ≤ (↑x : Int) ∧ (↑x : Int) < (↑(List.length (arrP c (vc12_35 c f n) (wn n))) : Int)) ∧ ((-9223372036854775808 : Int) ≤ 2 * (List.getD (lM c f n) x (vc12_2 c f n)).2.2 ∧ 2 * (List.getD (lM c f n) x (vc12_2 c f n)).2.2 ≤ 9223372036854775807) ∧ ((!(vc12_3 c f n x)) = false → 0 ≤ (↑x : Int) ∧ (↑x : Int) < (↑(List.length (arrP c (vc12_36 c f n) (wn n))) : Int)) ∧ ((!(vc12_3 c f n x)) = false → 0 ≤ (↑x : Int) ∧ (↑x : Int) < (↑(List.length (arrP c (vc12_36 c f n) (wn n))) : Int)) ∧ ((!(vc12_3 c f n x)) = false → (-9223372036854775808 : Int) ≤ 0 - (List.getD (lM c f n) x (vc12_2 c f n)).2.2 ∧ 0 - (List.getD (lM c f n) x (vc12_2 c f n)).2.2 ≤ 9223372036854775807) ∧ ((bif !(vc12_3 c f n x) then true else !(vc12_4 c f n x)) = false → 0 ≤ (↑x : Int) ∧ (↑x : Int) < (↑(List.length (arrP c (vc12_37 c f n) (wn n))) : Int)) ∧ ((bif !(vc12_3 c f n x) then true else !(vc12_4 c f n x)) = false → 0 ≤ (↑x : Int) ∧ (↑x : Int) < (↑(List.length (arrP c (vc12_37 c f n) (wn n))) : Int)) ∧ ((bif !(vc12_3 c f n x) then true else !(vc12_4 c f n x)) = false → (-9223372036854775808) ≤ (List.getD (lM c f n) x (vc12_2 c f n)).1 + 7 ∧ (List.getD (lM c f n) x (vc12_2 c f n)).1 + (7 : Int) ≤ 9223372036854775807) ∧ ((bif bif !(vc12_3 c f n x) then true else !(vc12_4 c f n x) then true else !(vc12_7 c f n x)) = false → 0 ≤ (↑x : Int) ∧ (↑x : Int) < (↑(List.length (arrP c f (wn n + 9))) : Int)) ∧ ((bif bif !(vc12_3 c f n x) then true else !(vc12_4 c f n x) then true else !(vc12_7 c f n x)) = false → 0 ≤ (↑x : Int) ∧ (↑x : Int) < (↑(List.length (arrP c f (wn n + 9))) : Int))) ∧ ((vc12_23 c f n x) = true → false = true) ∧ ((vc12_23 c f n x) = false → ((-9223372036854775808) ≤ (↑x : Int) + 1 ∧ (↑x : Int) + (1 : Int) ≤ 9223372036854775807) ∧ ∃ (y : Nat), ((↑(List.length (lM c f n)) : Int) = (↑(List.length (lM c f n)) : Int) ∧ (↑x : Int) + 1 = (↑y : Int) ∧ lM c f n = lM c f n ∧ arrP c (vc12_35 c f n) (wn n) = arrP c (vc12_35 c f n) (wn n) ∧ arrP c (vc12_36 c f n) (wn n) = arrP c (vc12_36 c f n) (wn n) ∧ arrP c (vc12_37 c f n) (wn n) = arrP c (vc12_37 c f n) (wn n) ∧ arrP c f (wn n + 9) = arrP c f (wn n + 9)) ∧ y ≤ List.length (lM c f n) ∧ List.length (lM c f n) - y < List.length (lM c f n) - x)) ∧ (decide ((↑x : Int) < (↑(List.length (lM c f n)) : Int)) = false → true = true))))))) := by
 intros
 kernel_rfl
theorem wp12 (c : Cab) (f : Flt) (n : Int) : wpF Tryz.prog G132 (annMi c f n) Tryz.f12 cMirrorsL (c, f, n, ()) := by
 refine (vc12 c f n).mpr ?_
 delta vc12_0 vc12_1 vc12_2 vc12_3 vc12_4 vc12_5 vc12_6 vc12_7 vc12_8 vc12_9 vc12_10 vc12_11 vc12_12 vc12_13 vc12_14 vc12_15 vc12_16 vc12_17 vc12_18 vc12_19 vc12_20 vc12_21 vc12_22 vc12_23 vc12_24 vc12_25 vc12_26 vc12_27 vc12_28 vc12_29 vc12_30 vc12_31 vc12_32 vc12_33 vc12_34 vc12_35 vc12_36 vc12_37 vc12_38 vc12_39 vc12_40
 delta I64
 intro hu
 refine ⟨⟨fun h => Nat.le_trans (short_len h).1 (by decide), fun h => Nat.le_trans (short_len h).2 (by decide)⟩, fun _ => rfl, fun h => ?_⟩
 have h : (bif bif bif bif bif false then true else !shortS c then true else (fltS c f != 0) then true else decide (500 < f.2.2.2) then true else decide (f.2.2.2 < -500) then true else decide (99000 < f.2.2.1)) = false := h
 obtain ⟨h, hq3⟩ := bnT.1 h
 obtain ⟨h, hq2⟩ := bnT.1 h
 obtain ⟨h, hq1⟩ := bnT.1 h
 obtain ⟨h, hf⟩ := bnT.1 h
 have hs := short_len h
 have hf : fltS c f = 0 := bne_eq_false_iff_eq.1 hf
 have hq1 := of_decide_eq_false hq1
 have hq2 := of_decide_eq_false hq2
 have hq3 := of_decide_eq_false hq3
 obtain ⟨hc, hv⟩ := fltS_V hf
 have hcv := hv.1
 have h1 : c.1.length ≤ 1000000 := by omega
 have h2 : c.2.1.length ≤ 1000000 := by omega
 have hwn : 0 ≤ wn n ∧ wn n ≤ 200 := by
  have a1 := Int.tmod_nonneg 201 hu.1
  have a2 := Int.tmod_lt_of_pos n (b := 201) (by decide)
  show 0 ≤ n.tmod 201 ∧ n.tmod 201 ≤ 200
  omega
 have eR := revP_V hc
 have eT := turnP_V hf
 have hvR : fltV (revP c) (turnP c f) := by rw [eR, eT]; exact turn_V hv
 have hfR : fltS (revP c) (turnP c f) = 0 := fltV_S hvR
 have hcR : cabS (revP c) = 0 := cabV_S hvR.1
 have hRl := hvR.1.2.1
 have hRj := hvR.1.2.2.2.1
 have r1 : (revP c).1.length ≤ 1000000 := by omega
 have r2 : (revP c).2.1.length ≤ 1000000 := by omega
 have eRR : revP (revP c) = c := by rw [revP_V hcR, eR, revC_rev]
 have eTT : turnP (revP c) (turnP c f) = f := by rw [turnP_V hfR, eR, eT, turn_turn hv]
 have w1 : winS c f (wn n) = 0 := winS_zero hv (by omega)
 have w2 : winS (revP c) (turnP c f) (wn n) = 0 := winS_zero hvR (by omega)
 have eL : lM c f n = arrS c f (wn n) := arrP_V hv (by omega)
 have eM : mM c f n = arrS (revC c) (turnF c f) (wn n) := by
  show arrP (revP c) (turnP c f) (wn n) = _
  rw [arrP_V hvR (by omega), eR, eT]
 have eLM : (mM c f n).length = (lM c f n).length := by rw [eL, eM, len_mi hv]
 have hlL := arrS_len (win := wn n) hv
 rw [← eL] at hlL
 have rr1 : (revP (revP c)).1.length ≤ 1000000 := by rw [eRR]; exact h1
 have rr2 : (revP (revP c)).2.1.length ≤ 1000000 := by rw [eRR]; exact h2
 have hA : (lM c f n).length ≤ 1000000 := by omega
 have ok0 : arrE (lM c f n) = 0 := by rw [eL]; exact arr_ok hv
 refine ⟨⟨by omega, fun h => by cases h⟩, ⟨h1, h2, h1, h2⟩, ⟨h1, h2, h1, h2⟩, ⟨fun _ => r1, fun _ => r2, fun _ => r1, fun _ => r2⟩, fun q => ?_, fun _ => ⟨⟨r1, r2, r1, r2, r1, r2⟩, ⟨r1, r2, r1, r2, r1, r2⟩, ⟨h1, h2, h1, h2⟩, ⟨r1, r2, r1, r2, r1, r2⟩, ⟨fun _ => rr1, fun _ => rr2, fun _ => rr1, fun _ => rr2, fun _ => hA, fun _ => hA⟩, fun q => ?_, fun _ => ?_⟩⟩
 ·exfalso
  have q : (bif bif cabS c != 0 then true else fltS c f != 0 then true else fltS (revP c) (turnP c f) != 0) = true := q
  rw [hc, hf, hfR] at q
  cases q
 ·exfalso
  have q : (bif bif bif bif bif bif bif cabS (revP c) != 0 then true else fltS (revP c) (turnP c f) != 0 then true else winS c f (wn n) != 0 then true else winS (revP c) (turnP c f) (wn n) != 0 then true else !decide (revP (revP c) = c) then true else !((turnP (revP c) (turnP c f)).1 == f.1 && ((turnP (revP c) (turnP c f)).2.1 == f.2.1 && ((turnP (revP c) (turnP c f)).2.2.1 == f.2.2.1 && ((turnP (revP c) (turnP c f)).2.2.2 == f.2.2.2 && true)))) then true else (((lM c f n).length : Int) != (mM c f n).length) then true else arrE (lM c f n) != 0) = true := q
  rw [hcR, hfR, w1, w2, eRR, eTT, eLM, ok0] at q
  simp at q
 clear w1 w2 rr1 rr2
 have eE : ∀ d, (lM c f n).filter (isEnd (strD d)) = ((mM c f n).filter (isEnd (strD (!d)))).map (setE d) := fun d => by rw [eL, eM]; exact arr_mi hv d
 refine ⟨(0 : Nat), ⟨rfl, rfl, rfl, rfl, rfl, rfl, rfl, rfl, rfl, rfl, rfl, rfl, rfl, rfl⟩, Nat.zero_le _, fun (x : Nat) hx => ⟨fun h => ?_, fun h => ?_⟩⟩
 ·have hx2 : x < 2 := by have := of_decide_eq_true h; omega
  obtain ⟨d, hd, hd'⟩ := getE12 hx2
  refine ⟨⟨by omega, by omega⟩, fun he => ?_, fun he => ?_⟩
  all_goals refine ⟨(((x, 0), [], []) : (Nat × Nat) × List Arr × List Arr), ⟨rfl, rfl, ?_, rfl, rfl, rfl, rfl, rfl, rfl, rfl, rfl, rfl, rfl, rfl, rfl, rfl, rfl, rfl, rfl, rfl⟩, ⟨⟨hx2, Nat.zero_le _, rfl, rfl⟩, rfl⟩, ?_⟩
  ·match x, hx2 with
   | 0, _ => exact Bool.noConfusion (sAB12.symm.trans he)
   | 1, _ => rfl
  rotate_left
  ·match x, hx2 with
   | 0, _ => rfl
   | 1, _ => exact Bool.noConfusion (sBB12.symm.trans he)
  all_goals
   rintro ⟨⟨x', k⟩, one, two⟩ ⟨⟨_, hk, e1, e2⟩, (rfl : x = x')⟩
   dsimp only at hk e1 e2 ⊢
   have b1 : one.length ≤ (lM c f n).length := by
    rw [e1]; exact Nat.le_trans (List.length_filter_le ..) (by rw [List.length_take]; omega)
   have b2 : two.length ≤ (mM c f n).length := by
    rw [e2]; exact Nat.le_trans (List.length_filter_le ..) (by rw [List.length_take]; omega)
   refine ⟨fun h => ?_, fun h => ?_⟩
   ·have h : k < (lM c f n).length := by have := of_decide_eq_true h; omega
    have i1 : (0 : Int) ≤ k ∧ (k : Int) < (lM c f n).length := by omega
    have i2 : (0 : Int) ≤ k ∧ (k : Int) < (mM c f n).length := by omega
    have i3 : (one.length + 1) * 32 ≤ 140737488355328 := by omega
    have i4 : (two.length + 1) * 32 ≤ 140737488355328 := by omega
    have i5 : -9223372036854775808 ≤ (k : Int) + 1 ∧ (k : Int) + 1 ≤ 9223372036854775807 := by omega
    have t1 := filt_take (l := lM c f n) (p := isEnd ([sA, sB].getD x ⟨⟨[]⟩⟩)) (d := (0, ⟨⟨[]⟩⟩, 0)) h
    have t2 := filt_take (l := mM c f n) (p := isEnd ([sB, sA].getD x ⟨⟨[]⟩⟩)) (k := k) (d := (0, ⟨⟨[]⟩⟩, 0)) (by omega)
    rw [← e1] at t1
    rw [← e2] at t2
    have m1 : (lM c f n).length - (k + 1) < (lM c f n).length - k := by omega
    refine ⟨⟨i1, i1⟩, fun p1 => ⟨⟨i1, i1, i3⟩, ⟨i2, i2⟩, fun p2 => ⟨⟨i2, i2, i4⟩, i5, ((x, k + 1), _, _), ⟨rfl, rfl, rfl, rfl, rfl, rfl, by simp, rfl, rfl, rfl, rfl, rfl, rfl, rfl, rfl, rfl, rfl, rfl, rfl, rfl⟩, ⟨⟨hx2, h, ?_, ?_⟩, rfl⟩, m1⟩, fun p2 => ⟨i5, ((x, k + 1), _, _), ⟨rfl, rfl, rfl, rfl, rfl, rfl, by simp, rfl, rfl, rfl, rfl, rfl, rfl, rfl, rfl, rfl, rfl, rfl, rfl, rfl⟩, ⟨⟨hx2, h, ?_, ?_⟩, rfl⟩, m1⟩⟩, fun p1 => ⟨⟨i2, i2⟩, fun p2 => ⟨⟨i2, i2, i4⟩, i5, ((x, k + 1), _, _), ⟨rfl, rfl, rfl, rfl, rfl, rfl, by simp, rfl, rfl, rfl, rfl, rfl, rfl, rfl, rfl, rfl, rfl, rfl, rfl, rfl⟩, ⟨⟨hx2, h, ?_, ?_⟩, rfl⟩, m1⟩, fun p2 => ⟨i5, ((x, k + 1), _, _), ⟨rfl, rfl, rfl, rfl, rfl, rfl, by simp, rfl, rfl, rfl, rfl, rfl, rfl, rfl, rfl, rfl, rfl, rfl, rfl, rfl⟩, ⟨⟨hx2, h, ?_, ?_⟩, rfl⟩, m1⟩⟩⟩
    ·rw [if_pos (show isEnd _ _ = true from p1)] at t1; exact t1.symm
    ·rw [if_pos (show isEnd _ _ = true from p2)] at t2; exact t2.symm
    ·rw [if_pos (show isEnd _ _ = true from p1)] at t1; exact t1.symm
    ·rw [if_neg (fun (e : isEnd _ _ = true) => Bool.noConfusion (p2.symm.trans e)), List.append_nil] at t2; exact t2.symm
    ·rw [if_neg (fun (e : isEnd _ _ = true) => Bool.noConfusion (p1.symm.trans e)), List.append_nil] at t1; exact t1.symm
    ·rw [if_pos (show isEnd _ _ = true from p2)] at t2; exact t2.symm
    ·rw [if_neg (fun (e : isEnd _ _ = true) => Bool.noConfusion (p1.symm.trans e)), List.append_nil] at t1; exact t1.symm
    ·rw [if_neg (fun (e : isEnd _ _ = true) => Bool.noConfusion (p2.symm.trans e)), List.append_nil] at t2; exact t2.symm
   have h : ¬ k < (lM c f n).length := by have := of_decide_eq_false h; omega
   rw [List.take_of_length_le (by omega)] at e1 e2
   have e3 : one = two.map (setE d) := by rw [e1, e2, hd, hd']; exact eE d
   have e4 : one.length = two.length := by rw [e3, List.length_map]
   refine ⟨fun q => ?_, fun _ => ⟨((x, 0), one, two), ⟨rfl, rfl, rfl, rfl, rfl, rfl, rfl, rfl, rfl, rfl, rfl, rfl, rfl, rfl, rfl, rfl, rfl, rfl⟩, ⟨⟨hx2, Nat.zero_le _, e1, e2⟩, rfl, rfl⟩, ?_⟩⟩
   ·exfalso
    have q := bne_iff_ne.1 q
    omega
   rintro ⟨⟨x'', i⟩, one', two'⟩ ⟨⟨_, hi, _, _⟩, (rfl : x = x''), (he2 : (one, two) = (one', two'))⟩
   cases he2
   dsimp only at hi ⊢
   refine ⟨fun h => ?_, fun h => ⟨by omega, (x + 1 : Nat), ⟨rfl, rfl, by simp, rfl, rfl, rfl, rfl, rfl, rfl, rfl, rfl, rfl, rfl, rfl⟩, by omega, by omega⟩⟩
   have h : i < one.length := by have := of_decide_eq_true h; omega
   have i1 : (0 : Int) ≤ i ∧ (i : Int) < one.length := by omega
   have i2 : (0 : Int) ≤ i ∧ (i : Int) < two.length := by omega
   obtain ⟨v1, v2⟩ := getD_map_set (z := (0, ⟨⟨[]⟩⟩, 0)) e3 h
   refine ⟨⟨i1, i1, i2, i2, fun _ => i1, fun _ => i1, fun _ => i2, fun _ => i2⟩, fun q => ?_, fun _ => ⟨by omega, ((x, i + 1), one, two), ⟨rfl, rfl, rfl, rfl, by simp, rfl, rfl, rfl, rfl, rfl, rfl, rfl, rfl, rfl, rfl, rfl, rfl, rfl⟩, ⟨⟨hx2, by dsimp only; omega, e1, e2⟩, rfl, rfl⟩, by dsimp only; omega⟩⟩
   exfalso
   rw [v1, v2] at q
   simp at q
 clear h hx x eE
 have hw9 : winS c f (wn n + 9) = 0 := winS_zero hv (by omega)
 have g1 := hv.2.1
 have g2 := hv.2.2.1
 have g3 := hv.2.2.2
 have v2 : fltV c (hiF 2 f) := ⟨hcv, g1, g2, g3.1, by show -1024 ≤ 2 * f.2.2.2 ∧ 2 * f.2.2.2 ≤ 1024; omega, by show 2 * f.2.2.2 ≠ 0; omega⟩
 have vm : fltV c (hiF (-1) f) := ⟨hcv, g1, g2, g3.1, by show -1024 ≤ -1 * f.2.2.2 ∧ -1 * f.2.2.2 ≤ 1024; omega, by show -1 * f.2.2.2 ≠ 0; omega⟩
 have v7 : fltV c (laF 7 f) := ⟨hcv, g1, g2, by show 0 ≤ f.2.2.1 + 7 ∧ f.2.2.1 + 7 ≤ 100000; omega, g3.2⟩
 have em : hiF (-1) f = (f.1, f.2.1, f.2.2.1, 0 - f.2.2.2) := by
  unfold hiF
  rw [show (-1 : Int) * f.2.2.2 = 0 - f.2.2.2 by omega]
 have e2 : arrP c (hiF 2 f) (wn n) = (lM c f n).map (hiA 2) := by rw [arrP_V v2 (by omega), eL]; exact arr_hi (by decide) hv v2
 have e3 : arrP c (hiF (-1) f) (wn n) = (lM c f n).map (hiA (-1)) := by rw [arrP_V vm (by omega), eL]; exact arr_hi (by decide) hv vm
 have e7 : arrP c (laF 7 f) (wn n) = (lM c f n).map (laA 7) := by rw [arrP_V v7 (by omega), eL]; exact arr_la hv v7
 obtain ⟨r, hr⟩ := arr_prefix (win := wn n) (win' := wn n + 9) hv (by omega)
 have e9 : arrP c f (wn n + 9) = lM c f n ++ r := by rw [arrP_V hv (by omega), eL]; exact hr
 have s2 : winS c (hiF 2 f) (wn n) = 0 := winS_zero v2 (by omega)
 have s3 : winS c (hiF (-1) f) (wn n) = 0 := winS_zero vm (by omega)
 have s7 : winS c (laF 7 f) (wn n) = 0 := winS_zero v7 (by omega)
 have l2 : (arrP c (hiF 2 f) (wn n)).length = (lM c f n).length := by rw [e2, List.length_map]
 have l3 : (arrP c (hiF (-1) f) (wn n)).length = (lM c f n).length := by rw [e3, List.length_map]
 have l7 : (arrP c (laF 7 f) (wn n)).length = (lM c f n).length := by rw [e7, List.length_map]
 have l9 : (lM c f n).length ≤ (arrP c f (wn n + 9)).length := by rw [e9, List.length_append]; omega
 have q2 : ∀ k, k < (lM c f n).length → (arrP c (hiF 2 f) (wn n)).getD k (0, ⟨⟨[]⟩⟩, 0) = hiA 2 ((lM c f n).getD k (0, ⟨⟨[]⟩⟩, 0)) := fun k h => by rw [e2]; exact getD_mapA h
 have q3 : ∀ k, k < (lM c f n).length → (arrP c (hiF (-1) f) (wn n)).getD k (0, ⟨⟨[]⟩⟩, 0) = hiA (-1) ((lM c f n).getD k (0, ⟨⟨[]⟩⟩, 0)) := fun k h => by rw [e3]; exact getD_mapA h
 have q7 : ∀ k, k < (lM c f n).length → (arrP c (laF 7 f) (wn n)).getD k (0, ⟨⟨[]⟩⟩, 0) = laA 7 ((lM c f n).getD k (0, ⟨⟨[]⟩⟩, 0)) := fun k h => by rw [e7]; exact getD_mapA h
 have q9 : ∀ k, k < (lM c f n).length → (arrP c f (wn n + 9)).getD k (0, ⟨⟨[]⟩⟩, 0) = (lM c f n).getD k (0, ⟨⟨[]⟩⟩, 0) := fun k h => by
  rw [e9, List.getD_eq_getElem?_getD, List.getD_eq_getElem?_getD, List.getElem?_append_left h]
 rw [em] at s3 l3 q3
 refine ⟨⟨by omega, by omega, by omega⟩, ⟨h1, h2, h1, h2⟩, ⟨h1, h2, h1, h2⟩, ⟨h1, h2, h1, h2⟩, ⟨h1, h2, by omega, h1, h2⟩, fun q => ?_, fun _ => ⟨(0 : Nat), ⟨rfl, rfl, rfl, rfl, rfl, rfl, rfl⟩, Nat.zero_le _, fun (k : Nat) hk => ⟨fun h => ?_, fun _ => rfl⟩⟩⟩
 ·exfalso
  have q : (bif bif bif bif bif bif bif winS c (hiF 2 f) (wn n) != 0 then true else winS c (f.1, f.2.1, f.2.2.1, 0 - f.2.2.2) (wn n) != 0 then true else winS c (laF 7 f) (wn n) != 0 then true else winS c f (wn n + 9) != 0 then true else (((arrP c (hiF 2 f) (wn n)).length : Int) != (lM c f n).length) then true else (((arrP c (f.1, f.2.1, f.2.2.1, 0 - f.2.2.2) (wn n)).length : Int) != (lM c f n).length) then true else (((arrP c (laF 7 f) (wn n)).length : Int) != (lM c f n).length) then true else decide (((arrP c f (wn n + 9)).length : Int) < (lM c f n).length)) = true := q
  rw [s2, s3, s7, hw9, l2, l3, l7, decide_eq_false (by omega)] at q
  simp at q
 have h : k < (lM c f n).length := by have := of_decide_eq_true h; omega
 have i1 : (0 : Int) ≤ k ∧ (k : Int) < (lM c f n).length := by omega
 have i2 : (0 : Int) ≤ k ∧ (k : Int) < (arrP c (hiF 2 f) (wn n)).length := by omega
 have i3 : (0 : Int) ≤ k ∧ (k : Int) < (arrP c (f.1, f.2.1, f.2.2.1, 0 - f.2.2.2) (wn n)).length := by omega
 have i7 : (0 : Int) ≤ k ∧ (k : Int) < (arrP c (laF 7 f) (wn n)).length := by omega
 have i9 : (0 : Int) ≤ k ∧ (k : Int) < (arrP c f (wn n + 9)).length := by omega
 have hmem : (lM c f n).getD k (0, ⟨⟨[]⟩⟩, 0) ∈ arrS c f (wn n) := by rw [← eL]; exact getD_mem h
 have hb := arr_tick hv hmem
 have q2 := q2 k h
 have q3 := q3 k h
 have q7 := q7 k h
 have q9 := q9 k h
 have b2 : -9223372036854775808 ≤ 2 * ((lM c f n).getD k (0, ⟨⟨[]⟩⟩, 0)).2.2 ∧ 2 * ((lM c f n).getD k (0, ⟨⟨[]⟩⟩, 0)).2.2 ≤ 9223372036854775807 := by omega
 have b3 : -9223372036854775808 ≤ 0 - ((lM c f n).getD k (0, ⟨⟨[]⟩⟩, 0)).2.2 ∧ 0 - ((lM c f n).getD k (0, ⟨⟨[]⟩⟩, 0)).2.2 ≤ 9223372036854775807 := by omega
 have b7 : -9223372036854775808 ≤ ((lM c f n).getD k (0, ⟨⟨[]⟩⟩, 0)).1 + 7 ∧ ((lM c f n).getD k (0, ⟨⟨[]⟩⟩, 0)).1 + 7 ≤ 9223372036854775807 := by omega
 have q3 : (arrP c (f.1, f.2.1, f.2.2.1, 0 - f.2.2.2) (wn n)).getD k (0, ⟨⟨[]⟩⟩, 0) = (((lM c f n).getD k (0, ⟨⟨[]⟩⟩, 0)).1, ((lM c f n).getD k (0, ⟨⟨[]⟩⟩, 0)).2.1, 0 - ((lM c f n).getD k (0, ⟨⟨[]⟩⟩, 0)).2.2) := by
  rw [q3]
  unfold hiA
  rw [show (-1 : Int) * ((lM c f n).getD k (0, ⟨⟨[]⟩⟩, 0)).2.2 = 0 - ((lM c f n).getD k (0, ⟨⟨[]⟩⟩, 0)).2.2 by omega]
 have z2 := eqA_self q2
 have z3 := eqA_self q3
 have z7 := eqA_self q7
 have z9 := eqA_self q9
 refine ⟨⟨i1, i1⟩, ⟨i2, i2, b2, fun _ => i3, fun _ => i3, fun _ => b3, fun _ => i7, fun _ => i7, fun _ => b7, fun _ => i9, fun _ => i9⟩, fun q => ?_, fun _ => ⟨by omega, (k + 1 : Nat), ⟨rfl, by simp, rfl, rfl, rfl, rfl, rfl⟩, h, by omega⟩⟩
 have hall : (bif bif bif eqA ((arrP c (hiF 2 f) (wn n)).getD k (0, ⟨⟨[]⟩⟩, 0)) (hiA 2 ((lM c f n).getD k (0, ⟨⟨[]⟩⟩, 0))) then true else eqA ((arrP c (f.1, f.2.1, f.2.2.1, 0 - f.2.2.2) (wn n)).getD k (0, ⟨⟨[]⟩⟩, 0)) (((lM c f n).getD k (0, ⟨⟨[]⟩⟩, 0)).1, ((lM c f n).getD k (0, ⟨⟨[]⟩⟩, 0)).2.1, 0 - ((lM c f n).getD k (0, ⟨⟨[]⟩⟩, 0)).2.2) then true else eqA ((arrP c (laF 7 f) (wn n)).getD k (0, ⟨⟨[]⟩⟩, 0)) (laA 7 ((lM c f n).getD k (0, ⟨⟨[]⟩⟩, 0))) then true else eqA ((arrP c f (wn n + 9)).getD k (0, ⟨⟨[]⟩⟩, 0)) ((lM c f n).getD k (0, ⟨⟨[]⟩⟩, 0))) = false := by rw [z2, z3, z7, z9]; rfl
 exact Bool.noConfusion (hall.symm.trans q)
theorem ok12 : Ok Tryz.prog 12 cMirrorsL := ok_of_wp mixed g132 (by kernel_rfl) (by kernel_rfl) (fun xx => annMi xx.1 xx.2.1 xx.2.2.1) fun xx => wp12 xx.1 xx.2.1 xx.2.2.1
end Go.Proofs.YtcledkhhecdppaaGreatDoor
