/- The law walked: part of the proof. -/
import Derived.Test.YtacaadhlobbemaaGreatDoorFC
set_option linter.unusedSimpArgs false
set_option linter.unusedVariables false
set_option maxRecDepth 20000
namespace Go.Proofs.YtacaadhlobbemaaGreatDoor
open Go.Sx
set_option maxHeartbeats 20000000
theorem join_nosep : ∀ xs : List (List UInt8), Lib.join xs [] = xs.flatten
  | [] => rfl
  | x :: r => by
    rw [Lib.join_cons]
    unfold Lib.joinTail
    simp
theorem lineTS_eq (x : Int × Int) : (lineTS x).data.toList = lineR x := by
  unfold lineTS
  rw [ByteArray.data_append, Array.toList_append]
  show Lib.join [[111, 114, 100, 101, 114], Lib.itoa x.1, Lib.itoa x.2] [32] ++ [10] = _
  rw [Lib.join_cons]
  unfold Lib.joinTail
  simp [lineR, headB]
theorem printS_eq (l : List (Int × Int)) : printS l = bs (printR l) := by
  unfold printS joinS
  show bs _ = _
  rw [show ByteArray.empty.data.toList = [] from rfl, join_nosep, List.map_map]
  congr 1
  unfold printR
  rw [List.flatMap_def]
  congr 1
  exact List.map_congr_left fun x _ => lineTS_eq x
theorem orders_small {l : List (Int × Int)} (h : ordersS l = 0) : ∀ x ∈ l, small x := fun x hx => by
  have := orders_all h x hx
  unfold ordOk at this
  unfold small
  omega
theorem fin_len (acc : List (Int × Int)) (n : Nat) : (finishF acc n).1.length ≤ 32 := by
  unfold finishF
  split
  · rename_i h; exact orders_len h
  · exact Nat.zero_le _
theorem parseGo_len (f : List UInt8 → (Int × Int) × Bool) : ∀ (l : List (List UInt8)) (acc : List (Int × Int)), (parseGo f l acc).1.length ≤ 32
  | [], acc => fin_len acc _
  | [w], acc => by
    by_cases h : w = []
    · rw [show parseGo f [w] acc = finishF acc acc.length by simp only [parseGo, if_pos h]]; exact fin_len acc _
    · rw [show parseGo f [w] acc = (([], (acc.length : Int), 25) : List (Int × Int) × Int × Int) by simp only [parseGo, if_neg h]]; exact Nat.zero_le _
  | w :: a :: r, acc => by
    rw [parseGo_cons f (w := w) (by simp)]
    split
    · exact parseGo_len f (a :: r) _
    · exact Nat.zero_le _
theorem parse_len (s : ByteArray) : (parseF s).1.length ≤ 32 := by
  unfold parseF
  split
  · exact Nat.zero_le _
  · exact parseGo_len _ _ _
def cFlowTexts : Con := { args := [aL 142, taS], ress := [Bo], owns := [], pre := fun _ => [], spec := fun _ => (true, ()) }
theorem vc14 : ∀ (l : List (Int × Int)) (s : ByteArray), wpF Tryz.prog G151 (na ()) Tryz.f14 cFlowTexts (l, s, ()) = (((bif !shortS (List.length l) then true else bif decide ((300 : Int) < (↑(ByteArray.size s) : Int)) then (↑(ByteArray.size s) : Int) != (4097 : Int) else false) = true → true = true) ∧ ((bif !shortS (List.length l) then true else bif decide ((300 : Int) < (↑(ByteArray.size s) : Int)) then (↑(ByteArray.size s) : Int) != (4097 : Int) else false) = false → List.length l ≤ (1000000 : Nat) ∧ ((ordersS l == (0 : Int)) = true → (List.length l ≤ (1000000 : Nat) ∧ ∀ (x : Int × Int), x ∈ l → small x) ∧ (((bif ByteArray.toList (if ordersS l = (0 : Int) then printS l else ByteArray.mk (Array.mk [])) == ByteArray.toList (bs (printR l)) then ordersS l == ordersS l else false) = true → List.length (parseF s).1 ≤ (1000000 : Nat)) ∧ ((bif ByteArray.toList (if ordersS l = (0 : Int) then printS l else ByteArray.mk (Array.mk [])) == ByteArray.toList (bs (printR l)) then ordersS l == ordersS l else false) = true → List.length (parseF s).1 ≤ (1000000 : Nat))) ∧ (bif bif bif bif bif ByteArray.toList (if ordersS l = (0 : Int) then printS l else ByteArray.mk (Array.mk [])) == ByteArray.toList (bs (printR l)) then ordersS l == ordersS l else false then decide ((parseF s).1 = (parseR s).1) else false then (parseF s).snd.fst == (parseR s).snd.fst else false then (parseF s).snd.snd == (parseR s).snd.snd else false then true else false) = true) ∧ ((ordersS l == (0 : Int)) = false → (((bif ByteArray.toList (if ordersS l = (0 : Int) then printS l else ByteArray.mk (Array.mk [])) == ByteArray.toList (ByteArray.mk (Array.mk [])) then ordersS l == ordersS l else false) = true → List.length (parseF s).1 ≤ (1000000 : Nat)) ∧ ((bif ByteArray.toList (if ordersS l = (0 : Int) then printS l else ByteArray.mk (Array.mk [])) == ByteArray.toList (ByteArray.mk (Array.mk [])) then ordersS l == ordersS l else false) = true → List.length (parseF s).1 ≤ (1000000 : Nat))) ∧ (bif bif bif bif bif ByteArray.toList (if ordersS l = (0 : Int) then printS l else ByteArray.mk (Array.mk [])) == ByteArray.toList (ByteArray.mk (Array.mk [])) then ordersS l == ordersS l else false then decide ((parseF s).1 = (parseR s).1) else false then (parseF s).snd.fst == (parseR s).snd.fst else false then (parseF s).snd.snd == (parseR s).snd.snd else false then true else false) = true))) := by
  intros
  kernel_rfl
theorem wp14 (l : List (Int × Int)) (s : ByteArray) : wpF Tryz.prog G151 (na ()) Tryz.f14 cFlowTexts (l, s, ()) := by
  refine (vc14 l s).mpr ?_
  refine ⟨fun _ => rfl, fun h => ?_⟩
  have hs : shortS l.length = true := by
    cases hh : shortS l.length with
    | true => rfl
    | false => rw [hh] at h; cases h
  have hl : l.length ≤ 1000000 := by
    unfold shortS at hs
    simp only [Bool.or_eq_true, Bool.and_eq_true, decide_eq_true_eq] at hs
    omega
  have hp := parse_len s
  rw [parse_eq s] at hp ⊢
  have hp' : (parseR s).1.length ≤ 1000000 := Nat.le_trans hp (by decide)
  refine ⟨hl, fun h0 => ?_, fun h0 => ?_⟩
  · have h0 : ordersS l = 0 := by simpa using h0
    rw [if_pos h0, printS_eq]
    exact ⟨⟨hl, orders_small h0⟩, ⟨fun _ => hp', fun _ => hp'⟩, by simp⟩
  · have h0 : ¬ ordersS l = 0 := by simpa using h0
    rw [if_neg h0]
    exact ⟨⟨fun _ => hp', fun _ => hp'⟩, by simp⟩
theorem ok14 : Ok Tryz.prog 14 cFlowTexts := ok_of_wp mixed g151 (by kernel_rfl) (by kernel_rfl) na fun xx => wp14 xx.1 xx.2.1
abbrev G152 : Gam := (14, cFlowTexts) :: G151
theorem g152 : GamOk Tryz.prog G152 := .cons ok14 g151
end Go.Proofs.YtacaadhlobbemaaGreatDoor
