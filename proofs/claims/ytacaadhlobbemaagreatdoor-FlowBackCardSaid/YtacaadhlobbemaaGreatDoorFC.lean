/- Contracts of the functions that the laws reach: part of the proof. -/
import Derived.Test.YtacaadhlobbemaaGreatDoorFB
import Derived.Lib.ItoaMem
import Derived.Lib.ItoaLen
import Derived.Shelf.Strconv.ErrVarAll
set_option linter.unusedSimpArgs false
set_option linter.unusedVariables false
set_option maxRecDepth 20000
namespace Go.Proofs.YtacaadhlobbemaaGreatDoor
open Go.Sx
def cConcat : Con := { args := [.val false (.list 85 (.list 172 sPt))], ress := [(false, .list 172 sPt)], owns := [true], pre := fun (l, _) => [l.length ≤ 1000, ∀ x ∈ l, x.length ≤ 1000], spec := fun (l, _) => (l.flatten, ()) }
abbrev annCat (l : List (List (Int × Int))) : Nat → Option Ann := fun id =>
  if id = 0 then some { X := Nat, σ := fun k => ⟨1, [(0, .one (.sl 0)), (3, .one (.int .i64 (l.take k).flatten.length)), (9, .one (.sl 0)), (10, .one (.int .i64 l.length)), (11, .one (.int .i64 k))], [(0, .imm 85 (.list 172 sPt) l)]⟩, inv := fun k => k ≤ l.length, mu := fun k => l.length - k }
  else if id = 2 then some { X := Nat, σ := fun k => ⟨2, [(6, .one (.sl 1)), (25, .one (.sl 0)), (26, .one (.int .i64 l.length)), (27, .one (.int .i64 k))], [(0, .imm 85 (.list 172 sPt) l), (1, .own 172 sPt (l.take k).flatten)]⟩, inv := fun k => k ≤ l.length, mu := fun k => l.length - k }
  else none
theorem flat_le {l : List (List (Int × Int))} (h : ∀ x ∈ l, x.length ≤ 1000) : l.flatten.length ≤ 1000 * l.length := by
  induction l with
  | nil => simp
  | cons x r ih =>
    have i1 := ih fun y hy => h y (by simp [hy])
    have i2 := h x (by simp)
    simp only [List.flatten_cons, List.length_append, List.length_cons]
    omega
theorem vc125 : ∀ (l : List (List (Int × Int))), wpF Tryz.prog G130 (annCat l) Tryz.f125 cConcat (l, ()) = (List.length l ≤ (1000 : Nat) → (∀ (x : List (Int × Int)), x ∈ l → List.length x ≤ (1000 : Nat)) → ∃ (x : Nat), ((0 : Int) = (↑(List.length (List.flatten (List.take x l))) : Int) ∧ (↑(List.length l) : Int) = (↑(List.length l) : Int) ∧ (0 : Int) = (↑x : Int) ∧ l = l) ∧ x ≤ List.length l ∧ ∀ (x : Nat), x ≤ List.length l → (decide ((↑x : Int) < (↑(List.length l) : Int)) = true → (((0 : Int) ≤ (↑x : Int) ∧ (↑x : Int) < (↑(List.length l) : Int)) ∧ (0 : Int) ≤ (↑x : Int) ∧ (↑x : Int) < (↑(List.length l) : Int)) ∧ ((-9223372036854775808 : Int) ≤ (↑(List.length (List.flatten (List.take x l))) : Int) + (↑(List.length (List.getD l x [])) : Int) ∧ (↑(List.length (List.flatten (List.take x l))) : Int) + (↑(List.length (List.getD l x [])) : Int) ≤ (9223372036854775807 : Int)) ∧ (decide ((↑(List.length (List.flatten (List.take x l))) : Int) + (↑(List.length (List.getD l x [])) : Int) < (0 : Int)) = true → STUCK (7 : Nat) (0 : Nat)) ∧ (decide ((↑(List.length (List.flatten (List.take x l))) : Int) + (↑(List.length (List.getD l x [])) : Int) < (0 : Int)) = false → ((-9223372036854775808 : Int) ≤ (↑x : Int) + (1 : Int) ∧ (↑x : Int) + (1 : Int) ≤ (9223372036854775807 : Int)) ∧ ∃ (y : Nat), ((↑(List.length (List.flatten (List.take x l))) : Int) + (↑(List.length (List.getD l x [])) : Int) = (↑(List.length (List.flatten (List.take y l))) : Int) ∧ (↑(List.length l) : Int) = (↑(List.length l) : Int) ∧ (↑x : Int) + (1 : Int) = (↑y : Int) ∧ l = l) ∧ y ≤ List.length l ∧ List.length l - y < List.length l - x)) ∧ (decide ((↑x : Int) < (↑(List.length l) : Int)) = false → ((0 : Int) ≤ (↑(List.length (List.flatten (List.take x l))) : Int) ∧ (↑(List.length (List.flatten (List.take x l))) : Int) ≤ (1000000 : Int)) ∧ ∃ (x : Nat), ((↑(List.length l) : Int) = (↑(List.length l) : Int) ∧ (0 : Int) = (↑x : Int) ∧ l = l ∧ [] = List.flatten (List.take x l)) ∧ x ≤ List.length l ∧ ∀ (x : Nat), x ≤ List.length l → (decide ((↑x : Int) < (↑(List.length l) : Int)) = true → (((0 : Int) ≤ (↑x : Int) ∧ (↑x : Int) < (↑(List.length l) : Int)) ∧ (0 : Int) ≤ (↑x : Int) ∧ (↑x : Int) < (↑(List.length l) : Int)) ∧ (List.length (List.flatten (List.take x l)) + List.length (List.getD l x [])) * (16 : Nat) ≤ (140737488355328 : Nat) ∧ ((-9223372036854775808 : Int) ≤ (↑x : Int) + (1 : Int) ∧ (↑x : Int) + (1 : Int) ≤ (9223372036854775807 : Int)) ∧ ∃ (y : Nat), ((↑(List.length l) : Int) = (↑(List.length l) : Int) ∧ (↑x : Int) + (1 : Int) = (↑y : Int) ∧ l = l ∧ List.flatten (List.take x l) ++ List.getD l x [] = List.flatten (List.take y l)) ∧ y ≤ List.length l ∧ List.length l - y < List.length l - x) ∧ (decide ((↑x : Int) < (↑(List.length l) : Int)) = false → List.flatten (List.take x l) = List.flatten l))) := by
  intros
  kernel_rfl
theorem wp125 (l : List (List (Int × Int))) : wpF Tryz.prog G130 (annCat l) Tryz.f125 cConcat (l, ()) := by
  refine (vc125 l).mpr ?_
  intro hb hl
  have hs : ∀ k, k < l.length → (l.take (k + 1)).flatten = (l.take k).flatten ++ l.getD k [] := fun k hk => by
    rw [← take_snoc (d := []) hk, List.flatten_append]; simp
  have hbd : ∀ k, (l.take k).flatten.length ≤ 1000000 := fun k => by
    have := flat_le (l := l.take k) fun x hx => hl x (List.mem_of_mem_take hx)
    have h2 := List.length_take_le' k l
    omega
  refine ⟨(0 : Nat), by simp, Nat.zero_le _, fun (k : Nat) hk => ⟨fun h => ?_, fun h => ?_⟩⟩
  · have hlt : k < l.length := by simpa using h
    have h1 := hl _ (getD_mem (d := []) hlt)
    have h2 := hbd k
    refine ⟨⟨⟨by omega, by omega⟩, by omega, by omega⟩, ⟨by omega, by omega⟩, fun h3 => ?_, fun h3 => ⟨⟨by omega, by omega⟩, (k + 1 : Nat), ⟨?_, rfl, by simp, rfl⟩, by omega, by omega⟩⟩
    · have := of_decide_eq_true h3; omega
    · rw [hs k hlt, List.length_append]; simp
  · have h2 := hbd k
    refine ⟨⟨by omega, by omega⟩, (0 : Nat), by simp, Nat.zero_le _, fun (k : Nat) hk => ⟨fun h => ?_, fun h => ?_⟩⟩
    · have hlt : k < l.length := by simpa using h
      have h1 := hl _ (getD_mem (d := []) hlt)
      have h2 := hbd k
      refine ⟨⟨⟨by omega, by omega⟩, by omega, by omega⟩, ?_, ⟨by omega, by omega⟩, (k + 1 : Nat), ⟨rfl, by simp, rfl, (hs k hlt).symm⟩, by omega, by omega⟩
      show ((l.take k).flatten.length + (l.getD k []).length) * 16 ≤ 140737488355328
      omega
    · have hlt : ¬ k < l.length := by simpa using h
      rw [List.take_of_length_le (by omega)]
theorem ok125 : Ok Tryz.prog 125 cConcat := ok_of_wp mixed g130 (by kernel_rfl) (by kernel_rfl) (fun xx => annCat xx.1) fun xx => wp125 xx.1
abbrev G131 : Gam := (125, cConcat) :: G130
theorem g131 : GamOk Tryz.prog G131 := .cons ok125 g130
def keysS : List (Int × Int) → List Int → List Int
  | [], ks => ks
  | x :: r, ks => keysS r (insKey ks x.1)
def mergeK (a b : List (Int × Int)) : List Int := keysS (a ++ b) []
def mergeO (a b : List (Int × Int)) : List (Int × Int) := isortT ((mergeK a b).map (askP a b))
def mergeE2 (a b : List (Int × Int)) : Int := firstS [bif decide (32 < ((mergeO a b).length : Int)) then 5 else 0, bif decide (0 ≤ idxS (fun x : Int × Int => withinS x.2 (-1000) 1000 != 0) (mergeO a b) 0) then 4 else 0]
def mergedF (a b : List (Int × Int)) : List (Int × Int) × Int := if mergeE a b ≠ 0 then ([], mergeE a b) else if mergeE2 a b ≠ 0 then ([], mergeE2 a b) else (mergeO a b, 0)
def cMerged : Con := { args := [aL 172, aL 172], ress := [(false, .list 172 sPt), I], owns := [true], pre := fun _ => [], spec := fun (a, b, _) => ((mergedF a b).1, (mergedF a b).2, ()) }
def seenO (a b : List (Int × Int)) (ks : List Int) (seen : List Nat) : List (Int × Int) := seen.map fun p => askP a b (ks.getD p 0)
theorem keysS_snoc : ∀ (l : List (Int × Int)) (x : Int × Int) (ks : List Int), keysS (l ++ [x]) ks = insKey (keysS l ks) x.1
  | [], _, _ => rfl
  | y :: l, x, ks => keysS_snoc l x (insKey ks y.1)
theorem insKey_nodup {ks : List Int} {k : Int} (h : ks.Nodup) : (insKey ks k).Nodup := by
  unfold insKey
  cases hc : ks.contains k with
  | true => exact h
  | false =>
    have : k ∉ ks := by simpa using hc
    simp only [cond_false]
    refine List.nodup_append.2 ⟨h, by simp, fun x hx y hy => ?_⟩
    have : y = k := by simpa using hy
    subst this
    rintro rfl
    contradiction
theorem insKey_len {ks : List Int} {k : Int} : (insKey ks k).length ≤ ks.length + 1 := by
  unfold insKey
  cases ks.contains k <;> simp
theorem keysS_ok : ∀ {l : List (Int × Int)} {ks : List Int}, ks.Nodup → (keysS l ks).Nodup ∧ (keysS l ks).length ≤ ks.length + l.length
  | [], ks, h => ⟨h, by simp [keysS]⟩
  | x :: l, ks, h => by
    have ih := keysS_ok (l := l) (insKey_nodup (k := x.1) h)
    have := insKey_len (ks := ks) (k := x.1)
    simp only [keysS, List.length_cons]
    exact ⟨ih.1, by omega⟩
theorem perm_mem : ∀ {l l' : List Nat}, l.Nodup → l'.Nodup → (∀ a, a ∈ l ↔ a ∈ l') → l.Perm l'
  | [], l', _, _, h => by
    have : l' = [] := List.eq_nil_iff_forall_not_mem.2 fun a ha => by simpa using (h a).2 ha
    rw [this]
  | a :: r, l', h1, h2, h => by
    have ha : a ∈ l' := (h a).1 (by simp)
    have h1' := List.nodup_cons.1 h1
    refine (List.Perm.cons a (perm_mem h1'.2 (h2.erase a) fun b => ?_)).trans (List.perm_cons_erase ha).symm
    rw [h2.mem_erase_iff]
    constructor
    · intro hb
      exact ⟨by rintro rfl; exact h1'.1 hb, (h b).1 (by simp [hb])⟩
    · rintro ⟨hne, hb⟩
      rcases List.mem_cons.1 ((h b).2 hb) with q | q
      · exact absurd q hne
      · exact q
theorem seen_perm {a b : List (Int × Int)} {ks : List Int} {seen : List Nat} (h1 : seen.Nodup) (h2 : ∀ p ∈ seen, p < ks.length) (h3 : ∀ p, p < ks.length → p ∈ seen) : (seenO a b ks seen).Perm (ks.map (askP a b)) := by
  have hp : seen.Perm (List.range ks.length) := perm_mem h1 List.nodup_range fun p => ⟨fun h => List.mem_range.2 (h2 p h), fun h => h3 p (List.mem_range.1 h)⟩
  have e : (List.range ks.length).map (fun p => askP a b (ks.getD p 0)) = ks.map (askP a b) := by
    apply List.ext_getElem?
    intro j
    by_cases hj : j < ks.length
    · simp [List.getElem?_map, List.getElem?_range hj, hj]
    · rw [List.getElem?_eq_none (by simp; omega), List.getElem?_eq_none (by simp; omega)]
  rw [← e]
  exact hp.map _
theorem keys_tickNe {a b : List (Int × Int)} : ∀ {ks : List Int}, ks.Nodup → tickNe (ks.map (askP a b))
  | [], _ => by simp [tickNe]
  | k :: r, h => by
    have h' := List.nodup_cons.1 h
    refine List.pairwise_cons.2 ⟨fun y hy => ?_, keys_tickNe h'.2⟩
    obtain ⟨q, hq, rfl⟩ := List.mem_map.1 hy
    show k ≠ q
    rintro rfl
    exact h'.1 hq
theorem nodup_len : ∀ (n : Nat) {l : List Nat}, l.Nodup → (∀ p ∈ l, p < n) → l.length ≤ n
  | 0, l, _, h => by
    have : l = [] := List.eq_nil_iff_forall_not_mem.2 fun a ha => by have := h a ha; omega
    rw [this]; simp
  | n + 1, l, hn, h => by
    by_cases hm : n ∈ l
    · have ih := nodup_len n (hn.erase n) fun p hp => by
        have := (hn.mem_erase_iff).1 hp
        have h2 := h p this.2
        have := this.1
        omega
      rw [List.length_erase_of_mem hm] at ih
      omega
    · have ih := nodup_len n hn fun p hp => by
        have h2 := h p hp
        have : p ≠ n := by rintro rfl; exact hm hp
        omega
      omega
abbrev annMerged (a b : List (Int × Int)) : Nat → Option Ann := fun id =>
  if id = 0 then some { X := Nat, σ := fun k => ⟨4, [(0, .one (.sl 0)), (1, .one (.sl 1)), (7, .one (.sl 2)), (27, .one (.sl 3)), (28, .one (.int .i64 (a ++ b).length)), (29, .one (.int .i64 k))], [(0, .imm 172 sPt a), (1, .imm 172 sPt b), (2, .map (keysS ((a ++ b).take k) [])), (3, .own 172 sPt (a ++ b))]⟩, inv := fun k => k ≤ (a ++ b).length ∧ mergeE a b = 0, mu := fun k => (a ++ b).length - k }
  else if id = 2 then some { X := List Nat, σ := fun seen => ⟨5, [(0, .one (.sl 0)), (1, .one (.sl 1)), (10, .one (.sl 4)), (38, .one (.sl 3))], [(0, .imm 172 sPt a), (1, .imm 172 sPt b), (2, .map (mergeK a b)), (3, .iter 2 (mergeK a b) seen), (4, .own 172 sPt (seenO a b (mergeK a b) seen))]⟩, inv := fun seen => seen.Nodup ∧ (∀ p ∈ seen, p < (mergeK a b).length) ∧ mergeE a b = 0, mu := fun seen => (mergeK a b).length - seen.length }
  else none
theorem vc53 : ∀ (a b : List (Int × Int)), wpF Tryz.prog G131 (annMerged a b) Tryz.f53 cMerged (a, b, ()) = ((2 : Nat) ≤ (1000000 : Nat) ∧ ((firstS [ordersS a, ordersS b] != (0 : Int)) = true → [] = (mergedF a b).fst ∧ firstS [ordersS a, ordersS b] = (mergedF a b).snd) ∧ ((firstS [ordersS a, ordersS b] != (0 : Int)) = false → ((2 : Nat) ≤ (1000 : Nat) ∧ ∀ (x : List (Int × Int)), x ∈ [a, b] → List.length x ≤ (1000 : Nat)) ∧ ∃ (x : Nat), ((↑(List.length (List.flatten [a, b])) : Int) = (↑(List.length (a ++ b)) : Int) ∧ (0 : Int) = (↑x : Int) ∧ a = a ∧ b = b ∧ [] = keysS (List.take x (a ++ b)) [] ∧ a ++ List.flatten [b] = a ++ b) ∧ (x ≤ List.length (a ++ b) ∧ mergeE a b = (0 : Int)) ∧ ∀ (x : Nat), x ≤ List.length (a ++ b) ∧ mergeE a b = (0 : Int) → (decide ((↑x : Int) < (↑(List.length (a ++ b)) : Int)) = true → (((0 : Int) ≤ (↑x : Int) ∧ (↑x : Int) < (↑(List.length (a ++ b)) : Int)) ∧ (0 : Int) ≤ (↑x : Int) ∧ (↑x : Int) < (↑(List.length (a ++ b)) : Int)) ∧ ((-9223372036854775808 : Int) ≤ (↑x : Int) + (1 : Int) ∧ (↑x : Int) + (1 : Int) ≤ (9223372036854775807 : Int)) ∧ ∃ (y : Nat), ((↑(List.length (a ++ b)) : Int) = (↑(List.length (a ++ b)) : Int) ∧ (↑x : Int) + (1 : Int) = (↑y : Int) ∧ a = a ∧ b = b ∧ (match List.contains (keysS (List.take x (a ++ b)) []) (List.getD (a ++ b) x ((0 : Int), (0 : Int))).fst with | true => keysS (List.take x (a ++ b)) [] | false => keysS (List.take x (a ++ b)) [] ++ [(List.getD (a ++ b) x ((0 : Int), (0 : Int))).fst]) = keysS (List.take y (a ++ b)) [] ∧ a ++ b = a ++ b) ∧ (y ≤ List.length (a ++ b) ∧ mergeE a b = (0 : Int)) ∧ List.length (a ++ b) - y < List.length (a ++ b) - x) ∧ (decide ((↑x : Int) < (↑(List.length (a ++ b)) : Int)) = false → ∃ (x_1 : List Nat), (a = a ∧ b = b ∧ keysS (List.take x (a ++ b)) [] = mergeK a b ∧ keysS (List.take x (a ++ b)) [] = mergeK a b ∧ [] = x_1 ∧ List.length (seenO a b (mergeK a b) x_1) = (0 : Nat)) ∧ (List.Nodup x_1 ∧ (∀ (p : Nat), p ∈ x_1 → p < List.length (mergeK a b)) ∧ mergeE a b = (0 : Int)) ∧ ∀ (x : List Nat), List.Nodup x ∧ (∀ (p : Nat), p ∈ x → p < List.length (mergeK a b)) ∧ mergeE a b = (0 : Int) → mergeK a b = mergeK a b ∧ (∀ (p : Nat), p < List.length (mergeK a b) → (p ∈ x → False) → (true = true → (mergeK a b = mergeK a b ∧ (x ++ [p] = [] → False) ∧ List.getLastD (x ++ [p]) (0 : Nat) < List.length (mergeK a b)) ∧ (List.length a ≤ (1000000 : Nat) ∧ List.length b ≤ (1000000 : Nat) ∧ ((-9223372036854775808 : Int) ≤ askedS a (List.getD (mergeK a b) (List.getLastD (x ++ [p]) (0 : Nat)) (0 : Int)) + askedS b (List.getD (mergeK a b) (List.getLastD (x ++ [p]) (0 : Nat)) (0 : Int)) ∧ askedS a (List.getD (mergeK a b) (List.getLastD (x ++ [p]) (0 : Nat)) (0 : Int)) + askedS b (List.getD (mergeK a b) (List.getLastD (x ++ [p]) (0 : Nat)) (0 : Int)) ≤ (9223372036854775807 : Int)) ∧ (List.length (seenO a b (mergeK a b) x) + (1 : Nat)) * (16 : Nat) ≤ (140737488355328 : Nat)) ∧ ∃ (y : List Nat), (a = a ∧ b = b ∧ mergeK a b = mergeK a b ∧ mergeK a b = mergeK a b ∧ x ++ [p] = y ∧ seenO a b (mergeK a b) x ++ [(List.getD (mergeK a b) (List.getLastD (x ++ [p]) (0 : Nat)) (0 : Int), askedS a (List.getD (mergeK a b) (List.getLastD (x ++ [p]) (0 : Nat)) (0 : Int)) + askedS b (List.getD (mergeK a b) (List.getLastD (x ++ [p]) (0 : Nat)) (0 : Int)))] = seenO a b (mergeK a b) y) ∧ (List.Nodup y ∧ (∀ (p : Nat), p ∈ y → p < List.length (mergeK a b)) ∧ mergeE a b = (0 : Int)) ∧ List.length (mergeK a b) - List.length y < List.length (mergeK a b) - List.length x) ∧ (true = false → (tickNe (seenO a b (mergeK a b) x) ∧ List.length (seenO a b (mergeK a b) x) ≤ (1000000 : Nat)) ∧ (List.length (isortT (seenO a b (mergeK a b) x)) ≤ (1000000 : Nat) ∧ ∀ (x_2 : Int × Int), x_2 ∈ isortT (seenO a b (mergeK a b) x) → True) ∧ (2 : Nat) ≤ (1000000 : Nat) ∧ ((firstS [bif decide ((32 : Int) < (↑(List.length (isortT (seenO a b (mergeK a b) x))) : Int)) then (5 : Int) else (0 : Int), bif decide ((0 : Int) ≤ idxS (fun (x : Int × Int) => match withinS x.snd (-1000 : Int) (1000 : Int) == (0 : Int) with | true => false | false => true) (isortT (seenO a b (mergeK a b) x)) (0 : Int)) then (4 : Int) else (0 : Int)] != (0 : Int)) = true → [] = (mergedF a b).fst ∧ firstS [bif decide ((32 : Int) < (↑(List.length (isortT (seenO a b (mergeK a b) x))) : Int)) then (5 : Int) else (0 : Int), bif decide ((0 : Int) ≤ idxS (fun (x : Int × Int) => match withinS x.snd (-1000 : Int) (1000 : Int) == (0 : Int) with | true => false | false => true) (isortT (seenO a b (mergeK a b) x)) (0 : Int)) then (4 : Int) else (0 : Int)] = (mergedF a b).snd) ∧ ((firstS [bif decide ((32 : Int) < (↑(List.length (isortT (seenO a b (mergeK a b) x))) : Int)) then (5 : Int) else (0 : Int), bif decide ((0 : Int) ≤ idxS (fun (x : Int × Int) => match withinS x.snd (-1000 : Int) (1000 : Int) == (0 : Int) with | true => false | false => true) (isortT (seenO a b (mergeK a b) x)) (0 : Int)) then (4 : Int) else (0 : Int)] != (0 : Int)) = false → isortT (seenO a b (mergeK a b) x) = (mergedF a b).fst ∧ (0 : Int) = (mergedF a b).snd))) ∧ ((∀ (p : Nat), p < List.length (mergeK a b) → p ∈ x) → (false = true → (mergeK a b = mergeK a b ∧ (x = [] → False) ∧ List.getLastD x (0 : Nat) < List.length (mergeK a b)) ∧ (List.length a ≤ (1000000 : Nat) ∧ List.length b ≤ (1000000 : Nat) ∧ ((-9223372036854775808 : Int) ≤ askedS a (List.getD (mergeK a b) (List.getLastD x (0 : Nat)) (0 : Int)) + askedS b (List.getD (mergeK a b) (List.getLastD x (0 : Nat)) (0 : Int)) ∧ askedS a (List.getD (mergeK a b) (List.getLastD x (0 : Nat)) (0 : Int)) + askedS b (List.getD (mergeK a b) (List.getLastD x (0 : Nat)) (0 : Int)) ≤ (9223372036854775807 : Int)) ∧ (List.length (seenO a b (mergeK a b) x) + (1 : Nat)) * (16 : Nat) ≤ (140737488355328 : Nat)) ∧ ∃ (y : List Nat), (a = a ∧ b = b ∧ mergeK a b = mergeK a b ∧ mergeK a b = mergeK a b ∧ x = y ∧ seenO a b (mergeK a b) x ++ [(List.getD (mergeK a b) (List.getLastD x (0 : Nat)) (0 : Int), askedS a (List.getD (mergeK a b) (List.getLastD x (0 : Nat)) (0 : Int)) + askedS b (List.getD (mergeK a b) (List.getLastD x (0 : Nat)) (0 : Int)))] = seenO a b (mergeK a b) y) ∧ (List.Nodup y ∧ (∀ (p : Nat), p ∈ y → p < List.length (mergeK a b)) ∧ mergeE a b = (0 : Int)) ∧ List.length (mergeK a b) - List.length y < List.length (mergeK a b) - List.length x) ∧ (false = false → (tickNe (seenO a b (mergeK a b) x) ∧ List.length (seenO a b (mergeK a b) x) ≤ (1000000 : Nat)) ∧ (List.length (isortT (seenO a b (mergeK a b) x)) ≤ (1000000 : Nat) ∧ ∀ (x_2 : Int × Int), x_2 ∈ isortT (seenO a b (mergeK a b) x) → True) ∧ (2 : Nat) ≤ (1000000 : Nat) ∧ ((firstS [bif decide ((32 : Int) < (↑(List.length (isortT (seenO a b (mergeK a b) x))) : Int)) then (5 : Int) else (0 : Int), bif decide ((0 : Int) ≤ idxS (fun (x : Int × Int) => match withinS x.snd (-1000 : Int) (1000 : Int) == (0 : Int) with | true => false | false => true) (isortT (seenO a b (mergeK a b) x)) (0 : Int)) then (4 : Int) else (0 : Int)] != (0 : Int)) = true → [] = (mergedF a b).fst ∧ firstS [bif decide ((32 : Int) < (↑(List.length (isortT (seenO a b (mergeK a b) x))) : Int)) then (5 : Int) else (0 : Int), bif decide ((0 : Int) ≤ idxS (fun (x : Int × Int) => match withinS x.snd (-1000 : Int) (1000 : Int) == (0 : Int) with | true => false | false => true) (isortT (seenO a b (mergeK a b) x)) (0 : Int)) then (4 : Int) else (0 : Int)] = (mergedF a b).snd) ∧ ((firstS [bif decide ((32 : Int) < (↑(List.length (isortT (seenO a b (mergeK a b) x))) : Int)) then (5 : Int) else (0 : Int), bif decide ((0 : Int) ≤ idxS (fun (x : Int × Int) => match withinS x.snd (-1000 : Int) (1000 : Int) == (0 : Int) with | true => false | false => true) (isortT (seenO a b (mergeK a b) x)) (0 : Int)) then (4 : Int) else (0 : Int)] != (0 : Int)) = false → isortT (seenO a b (mergeK a b) x) = (mergedF a b).fst ∧ (0 : Int) = (mergedF a b).snd)))))) := by
  intros
  kernel_rfl
theorem wp53 (a b : List (Int × Int)) : wpF Tryz.prog G131 (annMerged a b) Tryz.f53 cMerged (a, b, ()) := by
  refine (vc53 a b).mpr ?_
  have hE : firstS [ordersS a, ordersS b] = mergeE a b := rfl
  rw [hE]
  refine ⟨by omega, fun h => ?_, fun h => ?_⟩
  · have h0 := bne_iff_ne.1 h
    simp [mergedF, h0]
  · have h0 := bne_eq_false_iff_eq.1 h
    have h0' := h0
    unfold mergeE at h0'
    rw [firstS_zero, firstS_zero] at h0'
    have la := orders_len h0'.1
    have lb := orders_len h0'.2.1
    have oa := orders_all h0'.1
    have ob := orders_all h0'.2.1
    have hk := keysS_ok (l := a ++ b) (ks := []) List.nodup_nil
    have hkn : (mergeK a b).Nodup := hk.1
    have hkl : (mergeK a b).length ≤ 64 := by
      have := hk.2
      simp only [List.length_append, List.length_nil] at this
      show (keysS (a ++ b) []).length ≤ 64
      omega
    have hab : (a ++ b).length = a.length + b.length := List.length_append
    have e1 : [a, b].flatten = a ++ b := by simp
    refine ⟨⟨by omega, fun x hx => ?_⟩, (0 : Nat), by simp [keysS], ⟨Nat.zero_le _, h0⟩, fun (k : Nat) hk => ⟨fun h => ?_, fun h => ?_⟩⟩
    · have : x = a ∨ x = b := by simpa using hx
      rcases this with rfl | rfl <;> omega
    · have hlt : k < (a ++ b).length := by have := of_decide_eq_true h; omega
      refine ⟨⟨⟨by omega, by omega⟩, by omega, by omega⟩, ⟨by omega, by omega⟩, (k + 1 : Nat), ⟨rfl, by simp, rfl, rfl, ?_, rfl⟩, ⟨by omega, h0⟩, by omega⟩
      rw [← take_snoc (d := (0, 0)) hlt, keysS_snoc]
      rfl
    · have hlt : ¬ k < (a ++ b).length := by have := of_decide_eq_false h; omega
      have ek : keysS ((a ++ b).take k) [] = mergeK a b := by rw [List.take_of_length_le (by omega)]; rfl
      rw [ek]
      refine ⟨[], ⟨rfl, rfl, rfl, rfl, rfl, rfl⟩, ⟨List.nodup_nil, fun p hp => by simp at hp, h0⟩, fun (seen : List Nat) hs => ⟨rfl, fun p hp hps => ⟨fun _ => ?_, fun h => (by cases h)⟩, fun hall => ⟨fun h => (by cases h), fun _ => ?_⟩⟩⟩
      · obtain ⟨s1, s2, _⟩ := hs
        have hl : (seen ++ [p]).getLastD 0 = p := by simp [List.getLastD_eq_getLast?]
        have hn : (seen ++ [p]).Nodup := List.nodup_append.2 ⟨s1, by simp, fun x hx y hy => by
          have : y = p := by simpa using hy
          subst this
          rintro rfl
          exact hps hx⟩
        have ha : ∀ q ∈ seen ++ [p], q < (mergeK a b).length := fun q hq => by
          rcases List.mem_append.1 hq with hq | hq
          · exact s2 q hq
          · have : q = p := by simpa using hq
            subst this; exact hp
        have hlen := nodup_len _ hn ha
        rw [List.length_append] at hlen
        have hlen : seen.length + 1 ≤ (mergeK a b).length := hlen
        have hsl : (seenO a b (mergeK a b) seen).length = seen.length := by simp [seenO]
        have b1 := asked_bd (t := (mergeK a b).getD p 0) (l := a) (p := 0) (fun x hx => (oa x hx).2) ⟨by decide, by decide⟩
        have b2 := asked_bd (t := (mergeK a b).getD p 0) (l := b) (p := 0) (fun x hx => (ob x hx).2) ⟨by decide, by decide⟩
        have q1 : askedS a ((mergeK a b).getD p 0) = askedGo ((mergeK a b).getD p 0) a 0 := rfl
        have q2 : askedS b ((mergeK a b).getD p 0) = askedGo ((mergeK a b).getD p 0) b 0 := rfl
        rw [hl, hsl]
        refine ⟨⟨rfl, by simp, hp⟩, ⟨by omega, by omega, ⟨by omega, by omega⟩, by omega⟩, seen ++ [p], ⟨rfl, rfl, rfl, rfl, rfl, ?_⟩, ⟨hn, ha, h0⟩, by rw [List.length_append]; simp; omega⟩
        simp only [seenO, List.map_append, List.map_cons, List.map_nil]
        rfl
      · obtain ⟨s1, s2, _⟩ := hs
        have hp := seen_perm (a := a) (b := b) s1 s2 hall
        have ht : tickNe (seenO a b (mergeK a b) seen) := tickNe_perm hp.symm (keys_tickNe hkn)
        have hO : isortT (seenO a b (mergeK a b) seen) = mergeO a b := isort_same hp ht
        have hl : (mergeO a b).length = (mergeK a b).length := by
          show (isortT _).length = _
          rw [(isort_perm _).length_eq, List.length_map]
        have hsl : (seenO a b (mergeK a b) seen).length = (mergeK a b).length := by rw [hp.length_eq, List.length_map]
        rw [hO]
        change _ ∧ _ ∧ _ ∧ ((mergeE2 a b != 0) = true → [] = (mergedF a b).1 ∧ mergeE2 a b = (mergedF a b).2) ∧ ((mergeE2 a b != 0) = false → mergeO a b = (mergedF a b).1 ∧ 0 = (mergedF a b).2)
        refine ⟨⟨ht, by omega⟩, ⟨by omega, fun _ _ => trivial⟩, by omega, fun h => ?_, fun h => ?_⟩
        · have h1 := bne_iff_ne.1 h
          simp [mergedF, h0, h1]
        · have h1 := bne_eq_false_iff_eq.1 h
          simp [mergedF, h0, h1]
theorem ok53 : Ok Tryz.prog 53 cMerged := ok_of_wp mixed g131 (by kernel_rfl) (by kernel_rfl) (fun xx => annMerged xx.1 xx.2.1) fun xx => wp53 xx.1 xx.2.1
abbrev G132 : Gam := (53, cMerged) :: G131
theorem g132 : GamOk Tryz.prog G132 := .cons ok53 g131
end Go.Proofs.YtacaadhlobbemaaGreatDoor
namespace Go.Proofs.YtacaadhlobbemaaGreatDoor
open Go.Sx
def riseT (l : List (Int × Int)) : Prop := l.Pairwise fun x y => x.1 < y.1
theorem orders_rise_go : ∀ {l : List (Int × Int)} {t : Int}, ordersGo l t = 0 → riseT l ∧ ∀ x ∈ l, t < x.1
  | [], _, _ => ⟨List.Pairwise.nil, by simp⟩
  | x :: r, t, h => by
    unfold ordersGo at h
    by_cases h0 : firstS [withinS x.1 0 100000, withinS x.2 (-1000) 1000, bif decide (x.1 ≤ t) then 11 else 0] = 0
    · simp only [h0, ne_eq, not_true, if_false] at h
      have ih := orders_rise_go h
      rw [firstS_zero, firstS_zero, firstS_zero] at h0
      have ht : t < x.1 := by
        by_cases hx : x.1 ≤ t
        · have := h0.2.2.1
          rw [decide_eq_true hx] at this
          simp at this
        · omega
      refine ⟨List.pairwise_cons.2 ⟨ih.2, ih.1⟩, fun y hy => ?_⟩
      rcases List.mem_cons.1 hy with rfl | hy
      · exact ht
      · exact Int.lt_trans ht (ih.2 y hy)
    · simp only [ne_eq, h0, not_false_eq_true, if_true] at h
theorem orders_rise {l : List (Int × Int)} (h : ordersS l = 0) : riseT l := by
  unfold ordersS at h
  split at h
  · simp at h
  · exact (orders_rise_go h).1
theorem mergeT_mem {t : Int} : ∀ {f : Nat} {a b : List (Int × Int)}, a.length + b.length ≤ f → (t ∈ mergeT f a b ↔ t ∈ a.map (·.1) ∨ t ∈ b.map (·.1))
  | 0, a, b, h => by
    have ha : a = [] := List.eq_nil_of_length_eq_zero (by omega)
    have hb : b = [] := List.eq_nil_of_length_eq_zero (by omega)
    subst ha; subst hb
    simp [mergeT]
  | f + 1, [], [], _ => by simp [mergeT]
  | f + 1, x :: a, [], h => by
    have ih := mergeT_mem (t := t) (f := f) (a := a) (b := []) (by simp at h ⊢; omega)
    simp only [mergeT, List.mem_cons, ih, List.map_cons]
    simp
  | f + 1, [], y :: b, h => by
    have ih := mergeT_mem (t := t) (f := f) (a := []) (b := b) (by simp at h ⊢; omega)
    simp only [mergeT, List.mem_cons, ih, List.map_cons]
    simp
  | f + 1, x :: a, y :: b, h => by
    simp only [List.length_cons] at h
    have i1 := mergeT_mem (t := t) (f := f) (a := a) (b := y :: b) (by simp only [List.length_cons]; omega)
    have i2 := mergeT_mem (t := t) (f := f) (a := x :: a) (b := b) (by simp only [List.length_cons]; omega)
    have i3 := mergeT_mem (t := t) (f := f) (a := a) (b := b) (by omega)
    simp only [mergeT]
    split
    · rw [List.mem_cons, i1]
      simp only [List.map_cons, List.mem_cons]
      exact or_assoc.symm
    · split
      · rw [List.mem_cons, i2]
        simp only [List.map_cons, List.mem_cons]
        constructor
        · rintro (h | h | h)
          · exact .inr (.inl h)
          · exact .inl h
          · exact .inr (.inr h)
        · rintro (h | h | h)
          · exact .inr (.inl h)
          · exact .inl h
          · exact .inr (.inr h)
      · rename_i h1 h2
        have e : x.1 = y.1 := by omega
        rw [List.mem_cons, i3]
        simp only [List.map_cons, List.mem_cons, ← e]
        constructor
        · rintro (h | h | h)
          · exact .inl (.inl h)
          · exact .inl (.inr h)
          · exact .inr (.inr h)
        · rintro ((h | h) | h | h)
          · exact .inl h
          · exact .inr (.inl h)
          · exact .inl h
          · exact .inr (.inr h)
theorem mergeT_rise : ∀ {f : Nat} {a b : List (Int × Int)}, a.length + b.length ≤ f → riseT a → riseT b → (mergeT f a b).Pairwise (· < ·)
  | 0, a, b, h, _, _ => by simp [mergeT]
  | f + 1, [], [], _, _, _ => by simp [mergeT]
  | f + 1, x :: a, [], h, ha, hb => by
    have hl : a.length + ([] : List (Int × Int)).length ≤ f := by simp at h ⊢; omega
    have ha' := List.pairwise_cons.1 ha
    simp only [mergeT]
    refine List.pairwise_cons.2 ⟨fun t ht => ?_, mergeT_rise hl ha'.2 hb⟩
    rcases (mergeT_mem hl).1 ht with h | h
    · obtain ⟨z, hz, rfl⟩ := List.mem_map.1 h
      exact ha'.1 z hz
    · simp at h
  | f + 1, [], y :: b, h, ha, hb => by
    have hl : ([] : List (Int × Int)).length + b.length ≤ f := by simp at h ⊢; omega
    have hb' := List.pairwise_cons.1 hb
    simp only [mergeT]
    refine List.pairwise_cons.2 ⟨fun t ht => ?_, mergeT_rise hl ha hb'.2⟩
    rcases (mergeT_mem hl).1 ht with h | h
    · simp at h
    · obtain ⟨z, hz, rfl⟩ := List.mem_map.1 h
      exact hb'.1 z hz
  | f + 1, x :: a, y :: b, h, ha, hb => by
    simp only [List.length_cons] at h
    have ha' := List.pairwise_cons.1 ha
    have hb' := List.pairwise_cons.1 hb
    simp only [mergeT]
    split
    · rename_i hxy
      have hl : a.length + (y :: b).length ≤ f := by simp only [List.length_cons]; omega
      refine List.pairwise_cons.2 ⟨fun t ht => ?_, mergeT_rise hl ha'.2 hb⟩
      rcases (mergeT_mem hl).1 ht with h | h
      · obtain ⟨z, hz, rfl⟩ := List.mem_map.1 h
        exact ha'.1 z hz
      · obtain ⟨z, hz, rfl⟩ := List.mem_map.1 h
        rcases List.mem_cons.1 hz with rfl | hz
        · exact hxy
        · exact Int.lt_trans hxy (hb'.1 z hz)
    · split
      · rename_i hxy
        have hl : (x :: a).length + b.length ≤ f := by simp only [List.length_cons]; omega
        refine List.pairwise_cons.2 ⟨fun t ht => ?_, mergeT_rise hl ha hb'.2⟩
        rcases (mergeT_mem hl).1 ht with h | h
        · obtain ⟨z, hz, rfl⟩ := List.mem_map.1 h
          rcases List.mem_cons.1 hz with rfl | hz
          · exact hxy
          · exact Int.lt_trans hxy (ha'.1 z hz)
        · obtain ⟨z, hz, rfl⟩ := List.mem_map.1 h
          exact hb'.1 z hz
      · rename_i h1 h2
        have e : x.1 = y.1 := by omega
        have hl : a.length + b.length ≤ f := by omega
        refine List.pairwise_cons.2 ⟨fun t ht => ?_, mergeT_rise hl ha'.2 hb'.2⟩
        rcases (mergeT_mem hl).1 ht with h | h
        · obtain ⟨z, hz, rfl⟩ := List.mem_map.1 h
          exact ha'.1 z hz
        · obtain ⟨z, hz, rfl⟩ := List.mem_map.1 h
          rw [e]
          exact hb'.1 z hz
theorem insKey_mem {ks : List Int} {k t : Int} : t ∈ insKey ks k ↔ t = k ∨ t ∈ ks := by
  unfold insKey
  cases h : ks.contains k with
  | true =>
    have hk : k ∈ ks := by simpa using h
    simp only [cond_true]
    constructor
    · exact .inr
    · rintro (rfl | h)
      · exact hk
      · exact h
  | false =>
    simp only [cond_false, List.mem_append, List.mem_singleton]
    exact or_comm
theorem keysS_mem {t : Int} : ∀ {l : List (Int × Int)} {ks : List Int}, t ∈ keysS l ks ↔ t ∈ ks ∨ t ∈ l.map (·.1)
  | [], ks => by simp [keysS]
  | x :: r, ks => by
    simp only [keysS, List.map_cons, List.mem_cons]
    rw [keysS_mem, insKey_mem]
    constructor
    · rintro ((h | h) | h)
      · exact .inr (.inl h)
      · exact .inl h
      · exact .inr (.inr h)
    · rintro (h | h | h)
      · exact .inl (.inr h)
      · exact .inl (.inl h)
      · exact .inr h
theorem perm_int : ∀ {l l' : List Int}, l.Nodup → l'.Nodup → (∀ a, a ∈ l ↔ a ∈ l') → l.Perm l'
  | [], l', _, _, h => by
    have : l' = [] := List.eq_nil_iff_forall_not_mem.2 fun a ha => by have := (h a).2 ha; simp at this
    rw [this]
  | a :: l, l', hn, hn', h => by
    have ha : a ∈ l' := (h a).1 (by simp)
    have hp := List.perm_cons_erase ha
    obtain ⟨ha1, hn1⟩ := List.nodup_cons.1 hn
    refine List.Perm.trans (List.Perm.cons a (perm_int hn1 (hn'.erase a) fun b => ?_)) hp.symm
    rw [hn'.mem_erase_iff]
    constructor
    · intro hb
      exact ⟨fun e => ha1 (e ▸ hb), (h b).1 (by simp [hb])⟩
    · rintro ⟨hne, hb⟩
      rcases List.mem_cons.1 ((h b).2 hb) with rfl | hb
      · exact absurd rfl hne
      · exact hb
theorem mergeO_eq {a b : List (Int × Int)} (ha : riseT a) (hb : riseT b) : mergeO a b = (rTicks a b).map (askP a b) := by
  have hr := mergeT_rise (Nat.le_refl (a.length + b.length)) ha hb
  have hk := (keysS_ok (l := a ++ b) (ks := []) List.nodup_nil).1
  have hp : (mergeK a b).Perm (rTicks a b) := perm_int hk (hr.imp fun h => Int.ne_of_lt h) fun t => by
    rw [show mergeK a b = keysS (a ++ b) [] from rfl, keysS_mem]
    unfold rTicks
    rw [mergeT_mem (Nat.le_refl _)]
    simp
  have hp2 := hp.map (askP a b)
  refine strict_unique ((isort_perm _).trans hp2) (isort_sorted (keys_tickNe hk)) ?_
  refine List.pairwise_map.2 ?_
  exact hr
theorem idx_first {α : Type} {g : α → Int} : ∀ {l : List α} {k : Nat}, 0 ≤ idxS (fun x => g x != 0) l k ↔ firstS (l.map g) ≠ 0
  | [], k => by simp [idxS, firstS]
  | x :: r, k => by
    have ih := idx_first (g := g) (l := r) (k := k + 1)
    simp only [idxS, List.map_cons, firstS]
    by_cases h : g x = 0
    · simp only [h, bne_self_eq_false, Bool.false_eq_true, if_false, if_true]
      exact ih
    · have : (g x != 0) = true := bne_iff_ne.2 h
      simp only [this, if_true, h, if_false, ne_eq, not_false_eq_true, iff_true]
      omega
theorem merged_eq {a b : List (Int × Int)} : mergedF a b = rMergedS a b := by
  unfold mergedF rMergedS
  by_cases h0 : mergeE a b = 0
  · simp only [h0, ne_eq, not_true, if_false]
    have h0' := h0
    unfold mergeE at h0'
    rw [firstS_zero, firstS_zero] at h0'
    have e := mergeO_eq (orders_rise h0'.1) (orders_rise h0'.2.1)
    have hi := idx_first (g := fun x : Int × Int => withinS x.2 (-1000) 1000) (l := (rTicks a b).map (askP a b)) (k := 0)
    rw [List.map_map] at hi
    have hE : firstS ((rTicks a b).map ((fun x : Int × Int => withinS x.2 (-1000) 1000) ∘ askP a b)) = rMergeE a b := rfl
    rw [hE] at hi
    unfold mergeE2
    rw [e, List.length_map]
    by_cases h1 : 32 < (rTicks a b).length
    · have : decide (32 < ((rTicks a b).length : Int)) = true := decide_eq_true (by omega)
      simp [firstS, this, h1]
    · have : decide (32 < ((rTicks a b).length : Int)) = false := decide_eq_false (by omega)
      simp only [this, cond_false, h1, if_false]
      by_cases h2 : rMergeE a b = 0
      · have h3 : decide (0 ≤ idxS (fun x : Int × Int => withinS x.2 (-1000) 1000 != 0) ((rTicks a b).map (askP a b)) 0) = false := decide_eq_false fun h => hi.1 h h2
        rw [h3]
        simp [firstS, h2]
      · have h3 : decide (0 ≤ idxS (fun x : Int × Int => withinS x.2 (-1000) 1000 != 0) ((rTicks a b).map (askP a b)) 0) = true := decide_eq_true (hi.2 h2)
        rw [h3]
        simp [firstS, h2]
  · simp [h0]
theorem merged_len {a b : List (Int × Int)} : (mergedF a b).1.length ≤ 1000000 := by
  rw [merged_eq]
  unfold rMergedS
  split
  · simp
  · split
    · simp
    · split
      · simp
      · simp only [List.length_map]; omega
end Go.Proofs.YtacaadhlobbemaaGreatDoor
namespace Go.Proofs.YtacaadhlobbemaaGreatDoor
open Go.Sx
set_option maxHeartbeats 20000000
def cAwake : Con := { args := [], ress := [Bo], owns := [], pre := fun _ => [], spec := fun _ => (true, ()) }
theorem vc16 : wpF Tryz.prog G132 (na ()) Tryz.f16 cAwake () = ((2 : Nat) ≤ (1000000 : Nat) ∧ (2 : Nat) ≤ (1000000 : Nat) ∧ (2 : Nat) ≤ (1000000 : Nat) ∧ (2 : Nat) ≤ (1000000 : Nat) ∧ (((-9223372036854775808 : Int) ≤ (xAtS firstL (25 : Int)).snd + (xCrossS [firstL, secondL] (0 : Int)).snd ∧ (xAtS firstL (25 : Int)).snd + (xCrossS [firstL, secondL] (0 : Int)).snd ≤ (9223372036854775807 : Int)) ∧ ((-9223372036854775808 : Int) ≤ (xAtS firstL (25 : Int)).snd + (xCrossS [firstL, secondL] (0 : Int)).snd + (xShareS [firstL, secondL] (0 : Int)).snd ∧ (xAtS firstL (25 : Int)).snd + (xCrossS [firstL, secondL] (0 : Int)).snd + (xShareS [firstL, secondL] (0 : Int)).snd ≤ (9223372036854775807 : Int)) ∧ ((-9223372036854775808 : Int) ≤ (xAtS firstL (25 : Int)).snd + (xCrossS [firstL, secondL] (0 : Int)).snd + (xShareS [firstL, secondL] (0 : Int)).snd + (xCrossS [firstL, secondL] (51 : Int)).snd ∧ (xAtS firstL (25 : Int)).snd + (xCrossS [firstL, secondL] (0 : Int)).snd + (xShareS [firstL, secondL] (0 : Int)).snd + (xCrossS [firstL, secondL] (51 : Int)).snd ≤ (9223372036854775807 : Int)) ∧ ((-9223372036854775808 : Int) ≤ (xAtS firstL (25 : Int)).snd + (xCrossS [firstL, secondL] (0 : Int)).snd + (xShareS [firstL, secondL] (0 : Int)).snd + (xCrossS [firstL, secondL] (51 : Int)).snd + (xShareS [firstL, secondL] (51 : Int)).snd ∧ (xAtS firstL (25 : Int)).snd + (xCrossS [firstL, secondL] (0 : Int)).snd + (xShareS [firstL, secondL] (0 : Int)).snd + (xCrossS [firstL, secondL] (51 : Int)).snd + (xShareS [firstL, secondL] (51 : Int)).snd ≤ (9223372036854775807 : Int)) ∧ ((-9223372036854775808 : Int) ≤ (xAtS firstL (25 : Int)).snd + (xCrossS [firstL, secondL] (0 : Int)).snd + (xShareS [firstL, secondL] (0 : Int)).snd + (xCrossS [firstL, secondL] (51 : Int)).snd + (xShareS [firstL, secondL] (51 : Int)).snd + (movedF firstL (10 : Int)).snd ∧ (xAtS firstL (25 : Int)).snd + (xCrossS [firstL, secondL] (0 : Int)).snd + (xShareS [firstL, secondL] (0 : Int)).snd + (xCrossS [firstL, secondL] (51 : Int)).snd + (xShareS [firstL, secondL] (51 : Int)).snd + (movedF firstL (10 : Int)).snd ≤ (9223372036854775807 : Int)) ∧ (false = false → (2 : Nat) ≤ (1000000 : Nat)) ∧ (false = false → (2 : Nat) ≤ (1000000 : Nat)) ∧ (false = false → (2 : Nat) ≤ (1000000 : Nat)) ∧ (false = false → (2 : Nat) ≤ (1000000 : Nat))) ∧ (false = true → false = true) ∧ (false = false → (((-9223372036854775808 : Int) ≤ checkLossS ((1 : Int), (32 : Int), (256 : Int)) (64 : Int) + checkLossS ((1 : Int), (32 : Int), (256 : Int)) (32 : Int) ∧ checkLossS ((1 : Int), (32 : Int), (256 : Int)) (64 : Int) + checkLossS ((1 : Int), (32 : Int), (256 : Int)) (32 : Int) ≤ (9223372036854775807 : Int)) ∧ (((-9223372036854775808 : Int) ≤ checkLossS ((1 : Int), (32 : Int), (256 : Int)) (64 : Int) + checkLossS ((1 : Int), (32 : Int), (256 : Int)) (32 : Int) + if checkLossS ((1 : Int), (32 : Int), (256 : Int)) (60 : Int) = (0 : Int) then match neededS ((1 : Int), (32 : Int), (256 : Int)) (60 : Int) with | some val => (0 : Int) | none => (7 : Int) else checkLossS ((1 : Int), (32 : Int), (256 : Int)) (60 : Int)) ∧ (checkLossS ((1 : Int), (32 : Int), (256 : Int)) (64 : Int) + checkLossS ((1 : Int), (32 : Int), (256 : Int)) (32 : Int) + if checkLossS ((1 : Int), (32 : Int), (256 : Int)) (60 : Int) = (0 : Int) then match neededS ((1 : Int), (32 : Int), (256 : Int)) (60 : Int) with | some val => (0 : Int) | none => (7 : Int) else checkLossS ((1 : Int), (32 : Int), (256 : Int)) (60 : Int)) ≤ (9223372036854775807 : Int)) ∧ ((-9223372036854775808 : Int) ≤ (checkLossS ((1 : Int), (32 : Int), (256 : Int)) (64 : Int) + checkLossS ((1 : Int), (32 : Int), (256 : Int)) (32 : Int) + if checkLossS ((1 : Int), (32 : Int), (256 : Int)) (60 : Int) = (0 : Int) then match neededS ((1 : Int), (32 : Int), (256 : Int)) (60 : Int) with | some val => (0 : Int) | none => (7 : Int) else checkLossS ((1 : Int), (32 : Int), (256 : Int)) (60 : Int)) + (balanceS ((1 : Int), (32 : Int), (256 : Int)) [(64 : Int), (32 : Int), (0 : Int)]).snd ∧ (checkLossS ((1 : Int), (32 : Int), (256 : Int)) (64 : Int) + checkLossS ((1 : Int), (32 : Int), (256 : Int)) (32 : Int) + if checkLossS ((1 : Int), (32 : Int), (256 : Int)) (60 : Int) = (0 : Int) then match neededS ((1 : Int), (32 : Int), (256 : Int)) (60 : Int) with | some val => (0 : Int) | none => (7 : Int) else checkLossS ((1 : Int), (32 : Int), (256 : Int)) (60 : Int)) + (balanceS ((1 : Int), (32 : Int), (256 : Int)) [(64 : Int), (32 : Int), (0 : Int)]).snd ≤ (9223372036854775807 : Int)) ∧ ((-9223372036854775808 : Int) ≤ (checkLossS ((1 : Int), (32 : Int), (256 : Int)) (64 : Int) + checkLossS ((1 : Int), (32 : Int), (256 : Int)) (32 : Int) + if checkLossS ((1 : Int), (32 : Int), (256 : Int)) (60 : Int) = (0 : Int) then match neededS ((1 : Int), (32 : Int), (256 : Int)) (60 : Int) with | some val => (0 : Int) | none => (7 : Int) else checkLossS ((1 : Int), (32 : Int), (256 : Int)) (60 : Int)) + (balanceS ((1 : Int), (32 : Int), (256 : Int)) [(64 : Int), (32 : Int), (0 : Int)]).snd + (mergedF marketL otherL).snd ∧ (checkLossS ((1 : Int), (32 : Int), (256 : Int)) (64 : Int) + checkLossS ((1 : Int), (32 : Int), (256 : Int)) (32 : Int) + if checkLossS ((1 : Int), (32 : Int), (256 : Int)) (60 : Int) = (0 : Int) then match neededS ((1 : Int), (32 : Int), (256 : Int)) (60 : Int) with | some val => (0 : Int) | none => (7 : Int) else checkLossS ((1 : Int), (32 : Int), (256 : Int)) (60 : Int)) + (balanceS ((1 : Int), (32 : Int), (256 : Int)) [(64 : Int), (32 : Int), (0 : Int)]).snd + (mergedF marketL otherL).snd ≤ (9223372036854775807 : Int)) ∧ (false = false → (3 : Nat) ≤ (1000000 : Nat)) ∧ (false = false → (3 : Nat) ≤ (1000000 : Nat))) ∧ (false = true → false = true) ∧ (false = false → (48 : Nat) ≤ (140737488355328 : Nat) ∧ (4 : Nat) ≤ (1000000 : Nat) ∧ (((-9223372036854775808 : Int) ≤ rampE ((4 : Int), (-50 : Int), (50 : Int)) (0 : Int) (twoL ++ [((15 : Int), (-5 : Int))]) + (xRampS ((4 : Int), (-50 : Int), (50 : Int)) (0 : Int) twoL (12 : Int)).snd ∧ rampE ((4 : Int), (-50 : Int), (50 : Int)) (0 : Int) (twoL ++ [((15 : Int), (-5 : Int))]) + (xRampS ((4 : Int), (-50 : Int), (50 : Int)) (0 : Int) twoL (12 : Int)).snd ≤ (9223372036854775807 : Int)) ∧ ((-9223372036854775808 : Int) ≤ rampE ((4 : Int), (-50 : Int), (50 : Int)) (0 : Int) (twoL ++ [((15 : Int), (-5 : Int))]) + (xRampS ((4 : Int), (-50 : Int), (50 : Int)) (0 : Int) twoL (12 : Int)).snd + (xLatestS ((4 : Int), (-50 : Int), (50 : Int)) (0 : Int) twoL (1 : Int)).snd ∧ rampE ((4 : Int), (-50 : Int), (50 : Int)) (0 : Int) (twoL ++ [((15 : Int), (-5 : Int))]) + (xRampS ((4 : Int), (-50 : Int), (50 : Int)) (0 : Int) twoL (12 : Int)).snd + (xLatestS ((4 : Int), (-50 : Int), (50 : Int)) (0 : Int) twoL (1 : Int)).snd ≤ (9223372036854775807 : Int)) ∧ ((-9223372036854775808 : Int) ≤ rampE ((4 : Int), (-50 : Int), (50 : Int)) (0 : Int) (twoL ++ [((15 : Int), (-5 : Int))]) + (xRampS ((4 : Int), (-50 : Int), (50 : Int)) (0 : Int) twoL (12 : Int)).snd + (xLatestS ((4 : Int), (-50 : Int), (50 : Int)) (0 : Int) twoL (1 : Int)).snd + (xRespS ((10 : Int), (512 : Int), (20 : Int)) [(30 : Int), (-100 : Int), (10 : Int), (13 : Int)]).snd ∧ rampE ((4 : Int), (-50 : Int), (50 : Int)) (0 : Int) (twoL ++ [((15 : Int), (-5 : Int))]) + (xRampS ((4 : Int), (-50 : Int), (50 : Int)) (0 : Int) twoL (12 : Int)).snd + (xLatestS ((4 : Int), (-50 : Int), (50 : Int)) (0 : Int) twoL (1 : Int)).snd + (xRespS ((10 : Int), (512 : Int), (20 : Int)) [(30 : Int), (-100 : Int), (10 : Int), (13 : Int)]).snd ≤ (9223372036854775807 : Int)) ∧ (false = false → (12 : Nat) ≤ (1000000 : Nat)) ∧ (false = false → (4 : Nat) ≤ (1000000 : Nat))) ∧ (false = true → false = true) ∧ (false = false → (((-9223372036854775808 : Int) ≤ (runF ((100 : Int), (200 : Int), (30 : Int), (20 : Int)) ((120 : Int), (50 : Int))).snd.snd + ordersS marketL ∧ (runF ((100 : Int), (200 : Int), (30 : Int), (20 : Int)) ((120 : Int), (50 : Int))).snd.snd + ordersS marketL ≤ (9223372036854775807 : Int)) ∧ (true = true → (5 : Nat) ≤ (1000000 : Nat)) ∧ (true = true → (5 : Nat) ≤ (1000000 : Nat))) ∧ true = true)))) := by
  intros
  kernel_rfl
theorem wp16  : wpF Tryz.prog G132 (na ()) Tryz.f16 cAwake () := by
  refine vc16.mpr ?_
  have e0 : (xAtS firstL 25).2 = 0 := by kernel_rfl
  have e1 : (xCrossS [firstL, secondL] 0).2 = 0 := by kernel_rfl
  have e2 : (xShareS [firstL, secondL] 0).2 = 0 := by kernel_rfl
  have e3 : (xCrossS [firstL, secondL] 51).2 = 0 := by kernel_rfl
  have e4 : (xShareS [firstL, secondL] 51).2 = 0 := by kernel_rfl
  have e5 : (movedF firstL 10).2 = 0 := by kernel_rfl
  have e6 : checkLossS (1, 32, 256) 64 = 0 := by kernel_rfl
  have e7 : checkLossS (1, 32, 256) 32 = 0 := by kernel_rfl
  have e8 : checkLossS (1, 32, 256) 60 = 0 := by kernel_rfl
  have e9 : neededS (1, 32, 256) 60 = some 64 := by kernel_rfl
  have e10 : (balanceS (1, 32, 256) [64, 32, 0]).2 = 0 := by kernel_rfl
  have e11 : (mergedF marketL otherL).2 = 0 := by kernel_rfl
  have e12 : rampE (4, -50, 50) 0 (twoL ++ [(15, -5)]) = 0 := by kernel_rfl
  have e13 : (xRampS (4, -50, 50) 0 twoL 12).2 = 0 := by kernel_rfl
  have e14 : (xLatestS (4, -50, 50) 0 twoL 1).2 = 0 := by kernel_rfl
  have e15 : (xRespS (10, 512, 20) [30, -100, 10, 13]).2 = 0 := by kernel_rfl
  have e16 : (runF (100, 200, 30, 20) (120, 50)).2.2 = 0 := by kernel_rfl
  have e17 : ordersS marketL = 0 := by kernel_rfl
  simp only [e0, e1, e2, e3, e4, e5, e6, e7, e8, e9, e10, e11, e12, e13, e14, e15, e16, e17]
  simp
theorem ok16 : Ok Tryz.prog 16 cAwake := ok_of_wp mixed g132 (by kernel_rfl) (by kernel_rfl) na fun xx => wp16 
abbrev G133 : Gam := (16, cAwake) :: G132
theorem g133 : GamOk Tryz.prog G133 := .cons ok16 g132
end Go.Proofs.YtacaadhlobbemaaGreatDoor
namespace Go.Proofs.YtacaadhlobbemaaGreatDoor
open Go.Sx
abbrev tI : Bool × Sch := (false, .int .i64)
abbrev tB : Bool × Sch := (false, .bool)
abbrev tS : Bool × Sch := (false, .str)
abbrev tSs : Bool × Sch := (false, .list 9 .str)
abbrev taI : AK := .val false (.int .i64)
abbrev taU : AK := .val false (.int .u8)
abbrev taS : AK := .val false .str
abbrev G500 : Gam := []
theorem g500 : GamOk Tryz.prog G500 := .nil _
theorem wrap8 {n : Int} (h0 : 0 ≤ n) (h1 : n < 256) : IntKind.u8.wrap n = n := by
  simp [IntKind.wrap, IntKind.signed, IntKind.bits]
  omega
def isDig (c : Int) : Bool := decide (48 ≤ c) && decide (c ≤ 57)
def cIsDigit : Con := { args := [taU], ress := [tB], owns := [], pre := fun _ => [], spec := fun (c, _) => (isDig c, ()) }
theorem vc199 : ∀ (c : Int), wpF Tryz.prog G500 (na ()) Tryz.f199 cIsDigit (c, ()) = ((bif decide ((48 : Int) ≤ c) then decide (c ≤ (57 : Int)) else false) = isDig c) := by
  intros
  kernel_rfl
theorem wp199 (c : Int) : wpF Tryz.prog G500 (na ()) Tryz.f199 cIsDigit (c, ()) := by
  refine (vc199 c).mpr ?_
  unfold isDig; cases decide (48 ≤ c) <;> rfl
theorem ok199 : Ok Tryz.prog 199 cIsDigit := ok_of_wp mixed g500 (by kernel_rfl) (by kernel_rfl) na fun xx => wp199 xx.1
abbrev G501 : Gam := (199, cIsDigit) :: G500
theorem g501 : GamOk Tryz.prog G501 := .cons ok199 g500
def digFrom : List UInt8 → Int → Int × Bool
  | [], n => (n, true)
  | c :: r, n => if isDig c.toNat = true then digFrom r (10 * n + (c.toNat - 48)) else (0, false)
def digBad (s : ByteArray) : Bool := decide (s.size = 0) || decide (9 < s.size) || (decide (1 < s.size) && decide (byteAt s 0 = 48))
def digitsF (s : ByteArray) : Int × Bool := if digBad s = true then (0, false) else digFrom s.data.toList 0
def cDigits : Con := { args := [taS], ress := [tI, tB], owns := [], pre := fun (s, _) => [s.size ≤ 1000000], spec := fun (s, _) => ((digitsF s).1, (digitsF s).2, ()) }
abbrev annDig (s : ByteArray) : Ann := { X := Int × Int, σ := fun p => ⟨0, [(0, .one (.str s)), (4, .one (.int .i64 p.1)), (5, .one (.int .i64 p.2))], []⟩, inv := fun p => digBad s = false ∧ s.size ≤ 9 ∧ 0 ≤ p.2 ∧ p.2 ≤ s.size ∧ 0 ≤ p.1 ∧ p.1 < 10 ^ p.2.toNat ∧ digFrom (s.data.toList.drop p.2.toNat) p.1 = digFrom s.data.toList 0, mu := fun p => s.size - p.2.toNat }
theorem digFrom_drop {l : List UInt8} {i : Nat} (h : i < l.length) (n : Int) : digFrom (l.drop i) n = if isDig (l.getD i 0).toNat = true then digFrom (l.drop (i + 1)) (10 * n + ((l.getD i 0).toNat - 48)) else (0, false) := by
  rw [List.drop_eq_getElem_cons h]
  simp [digFrom, List.getD_eq_getElem?_getD, h]
theorem bad_guard (s : ByteArray) : (bif bif ((s.size : Int) == 0) then true else decide (9 < (s.size : Int)) then true else bif decide (1 < (s.size : Int)) then (((s.data.toList.getD 0 0).toNat : Int) == 48) else false) = digBad s := by
  have e1 : ((s.size : Int) == 0) = decide (s.size = 0) := by rw [Bool.eq_iff_iff]; simp
  have e2 : decide (9 < (s.size : Int)) = decide (9 < s.size) := by rw [decide_eq_decide]; omega
  have e3 : decide (1 < (s.size : Int)) = decide (1 < s.size) := by rw [decide_eq_decide]; omega
  have e4 : (((s.data.toList.getD 0 0).toNat : Int) == 48) = decide (byteAt s 0 = 48) := by rw [Bool.eq_iff_iff]; simp [byteAt]
  have k : ∀ a b c d : Bool, (bif bif a then true else b then true else bif c then d else false) = (a || b || (c && d)) := by decide
  rw [e1, e2, e3, e4, k]; rfl
theorem dig_rng {c : Nat} (h : isDig c = true) : 48 ≤ c ∧ c ≤ 57 := by
  unfold isDig at h
  simp only [Bool.and_eq_true, decide_eq_true_eq] at h
  omega
theorem vc178 : ∀ (s : ByteArray), wpF Tryz.prog G501 (ann0 (annDig s)) Tryz.f178 cDigits (s, ()) = (ByteArray.size s ≤ (1000000 : Nat) → ((bif (↑(ByteArray.size s) : Int) == (0 : Int) then true else decide ((9 : Int) < (↑(ByteArray.size s) : Int))) = false ∧ decide ((1 : Int) < (↑(ByteArray.size s) : Int)) = true → (0 : Int) ≤ (0 : Int) ∧ (0 : Int) < (↑(ByteArray.size s) : Int)) ∧ ((bif bif (↑(ByteArray.size s) : Int) == (0 : Int) then true else decide ((9 : Int) < (↑(ByteArray.size s) : Int)) then true else bif decide ((1 : Int) < (↑(ByteArray.size s) : Int)) then (↑(UInt8.toNat (List.getD s.data.toList (0 : Nat) (0 : UInt8))) : Int) == (48 : Int) else false) = true → (0 : Int) = (digitsF s).fst ∧ false = (digitsF s).snd) ∧ ((bif bif (↑(ByteArray.size s) : Int) == (0 : Int) then true else decide ((9 : Int) < (↑(ByteArray.size s) : Int)) then true else bif decide ((1 : Int) < (↑(ByteArray.size s) : Int)) then (↑(UInt8.toNat (List.getD s.data.toList (0 : Nat) (0 : UInt8))) : Int) == (48 : Int) else false) = false → ∃ (x : Int × Int), (s = s ∧ (0 : Int) = x.fst ∧ (0 : Int) = x.snd) ∧ (digBad s = false ∧ ByteArray.size s ≤ (9 : Nat) ∧ (0 : Int) ≤ x.snd ∧ x.snd ≤ (↑(ByteArray.size s) : Int) ∧ (0 : Int) ≤ x.fst ∧ x.fst < (10 : Int) ^ Int.toNat x.snd ∧ digFrom (List.drop (Int.toNat x.snd) s.data.toList) x.fst = digFrom s.data.toList (0 : Int)) ∧ ∀ (x : Int × Int), digBad s = false ∧ ByteArray.size s ≤ (9 : Nat) ∧ (0 : Int) ≤ x.snd ∧ x.snd ≤ (↑(ByteArray.size s) : Int) ∧ (0 : Int) ≤ x.fst ∧ x.fst < (10 : Int) ^ Int.toNat x.snd ∧ digFrom (List.drop (Int.toNat x.snd) s.data.toList) x.fst = digFrom s.data.toList (0 : Int) → (decide (x.snd < (↑(ByteArray.size s) : Int)) = true → ((0 : Int) ≤ x.snd ∧ x.snd < (↑(ByteArray.size s) : Int)) ∧ ((!isDig (↑(UInt8.toNat (List.getD s.data.toList (Int.toNat x.snd) (0 : UInt8))) : Int)) = true → (0 : Int) = (digitsF s).fst ∧ false = (digitsF s).snd) ∧ ((!isDig (↑(UInt8.toNat (List.getD s.data.toList (Int.toNat x.snd) (0 : UInt8))) : Int)) = false → (((-9223372036854775808 : Int) ≤ (10 : Int) * x.fst ∧ (10 : Int) * x.fst ≤ (9223372036854775807 : Int)) ∧ ((0 : Int) ≤ x.snd ∧ x.snd < (↑(ByteArray.size s) : Int)) ∧ ((-9223372036854775808 : Int) ≤ IntKind.wrap IntKind.u8 ((↑(UInt8.toNat (List.getD s.data.toList (Int.toNat x.snd) (0 : UInt8))) : Int) - (48 : Int)) ∧ IntKind.wrap IntKind.u8 ((↑(UInt8.toNat (List.getD s.data.toList (Int.toNat x.snd) (0 : UInt8))) : Int) - (48 : Int)) ≤ (9223372036854775807 : Int)) ∧ (-9223372036854775808 : Int) ≤ (10 : Int) * x.fst + IntKind.wrap IntKind.u8 ((↑(UInt8.toNat (List.getD s.data.toList (Int.toNat x.snd) (0 : UInt8))) : Int) - (48 : Int)) ∧ (10 : Int) * x.fst + IntKind.wrap IntKind.u8 ((↑(UInt8.toNat (List.getD s.data.toList (Int.toNat x.snd) (0 : UInt8))) : Int) - (48 : Int)) ≤ (9223372036854775807 : Int)) ∧ ((-9223372036854775808 : Int) ≤ x.snd + (1 : Int) ∧ x.snd + (1 : Int) ≤ (9223372036854775807 : Int)) ∧ ∃ (y : Int × Int), (s = s ∧ (10 : Int) * x.fst + IntKind.wrap IntKind.u8 ((↑(UInt8.toNat (List.getD s.data.toList (Int.toNat x.snd) (0 : UInt8))) : Int) - (48 : Int)) = y.fst ∧ x.snd + (1 : Int) = y.snd) ∧ (digBad s = false ∧ ByteArray.size s ≤ (9 : Nat) ∧ (0 : Int) ≤ y.snd ∧ y.snd ≤ (↑(ByteArray.size s) : Int) ∧ (0 : Int) ≤ y.fst ∧ y.fst < (10 : Int) ^ Int.toNat y.snd ∧ digFrom (List.drop (Int.toNat y.snd) s.data.toList) y.fst = digFrom s.data.toList (0 : Int)) ∧ ByteArray.size s - Int.toNat y.snd < ByteArray.size s - Int.toNat x.snd)) ∧ (decide (x.snd < (↑(ByteArray.size s) : Int)) = false → x.fst = (digitsF s).fst ∧ true = (digitsF s).snd))) := by
  intros
  kernel_rfl
theorem wp178 (s : ByteArray) : wpF Tryz.prog G501 (ann0 (annDig s)) Tryz.f178 cDigits (s, ()) := by
  refine (vc178 s).mpr ?_
  intro hs
  rw [bad_guard]
  refine ⟨fun h => ⟨by omega, by have h := h.2; simp at h; omega⟩, fun h => ?_, fun h => ?_⟩
  · unfold digitsF; rw [if_pos h]; exact ⟨rfl, rfl⟩
  · have ed : digitsF s = digFrom s.data.toList 0 := by unfold digitsF; rw [h]; rfl
    have h9 : s.size ≤ 9 := by
      unfold digBad at h
      simp only [Bool.or_eq_false_iff, decide_eq_false_iff_not] at h
      omega
    refine ⟨(0, 0), ⟨rfl, rfl, rfl⟩, ⟨h, h9, Int.le_refl _, by omega, Int.le_refl _, by decide, rfl⟩, ?_⟩
    rintro ⟨n, i⟩ ⟨_, _, hi0, hi1, hn0, hn1, hd⟩
    dsimp only at hi0 hi1 hn0 hn1 hd ⊢
    obtain ⟨j, rfl⟩ := Int.eq_ofNat_of_zero_le hi0
    have hl : s.data.toList.length = s.size := by simp
    simp only [Int.ofNat_eq_natCast, Int.toNat_natCast] at *
    refine ⟨fun hlt => ?_, fun hlt => ?_⟩
    · have hlt : j < s.size := by simpa using hlt
      have hdr := digFrom_drop (l := s.data.toList) (i := j) (by omega) n
      generalize hc : (s.data.toList.getD j 0).toNat = c at *
      refine ⟨by omega, fun hb => ?_, fun hb => ?_⟩
      · have hb : isDig c = false := by simpa using hb
        rw [ed, ← hd, hdr, hb]; exact ⟨rfl, rfl⟩
      · have hb : isDig c = true := by simpa using hb
        have hr := dig_rng hb
        have hp : n < 10 ^ 9 := Int.lt_of_lt_of_le hn1 (by
          have := Nat.pow_le_pow_right (n := 10) (by decide) (show j ≤ 9 by omega)
          have e : ((10 : Int) ^ j) = ((10 ^ j : Nat) : Int) := by simp
          rw [e]; exact_mod_cast this)
        have hw : IntKind.u8.wrap ((c : Int) - 48) = c - 48 := wrap8 (by omega) (by omega)
        rw [hw]
        refine ⟨by omega, by omega, (10 * n + (c - 48), ((j + 1 : Nat) : Int)), (by simp), ⟨h, h9, by dsimp only; omega, by dsimp only; omega, by dsimp only; omega, ?_, ?_⟩, by simp; omega⟩
        · simp only [Int.toNat_natCast, Int.pow_succ]; omega
        · simp only [Int.toNat_natCast]
          rw [← hd, hdr, if_pos hb]
    · have hj : j = s.size := by have : ¬ ((j : Int) < s.size) := by simpa using hlt
                                 omega
      have : digFrom (s.data.toList.drop j) n = (n, true) := by rw [List.drop_eq_nil_of_le (by omega)]; rfl
      rw [ed, ← hd, this]; exact ⟨rfl, rfl⟩
theorem ok178 : Ok Tryz.prog 178 cDigits := ok_of_wp mixed g501 (by kernel_rfl) (by kernel_rfl) (fun xx => ann0 (annDig xx.1)) fun xx => wp178 xx.1
abbrev G502 : Gam := (178, cDigits) :: G501
theorem g502 : GamOk Tryz.prog G502 := .cons ok178 g501
def signedF (s : ByteArray) : Int × Bool := if 0 < s.size ∧ byteAt s 0 = 45 then (-(digitsF (s.extract 1 s.size)).1, (digitsF (s.extract 1 s.size)).2 && decide (0 < (digitsF (s.extract 1 s.size)).1)) else digitsF s
def cSigned : Con := { args := [taS], ress := [tI, tB], owns := [], pre := fun (s, _) => [s.size ≤ 1000000], spec := fun (s, _) => ((signedF s).1, (signedF s).2, ()) }
theorem digFrom_rng : ∀ {l : List UInt8} {n : Int}, 0 ≤ n → 0 ≤ (digFrom l n).1 ∧ (digFrom l n).1 < (n + 1) * 10 ^ l.length
  | [], n, h => ⟨h, by simp [digFrom]; omega⟩
  | c :: r, n, h => by
    unfold digFrom
    split
    · rename_i hc
      have hr := dig_rng hc
      have ih := digFrom_rng (l := r) (n := 10 * n + (c.toNat - 48)) (by omega)
      refine ⟨ih.1, Int.lt_of_lt_of_le ih.2 ?_⟩
      rw [List.length_cons, Int.pow_succ, Int.mul_comm (10 ^ r.length), ← Int.mul_assoc]
      exact Int.mul_le_mul_of_nonneg_right (by omega) (Int.pow_nonneg (by decide))
    · refine ⟨Int.le_refl _, Int.mul_pos (by omega) (Int.pow_pos (by decide))⟩
theorem digitsF_rng (s : ByteArray) : 0 ≤ (digitsF s).1 ∧ (digitsF s).1 < 1000000000 := by
  unfold digitsF
  split
  · exact ⟨Int.le_refl _, by decide⟩
  · rename_i h
    have h : digBad s = false := by simpa using h
    have h9 : s.size ≤ 9 := by
      unfold digBad at h
      simp only [Bool.or_eq_false_iff, decide_eq_false_iff_not] at h
      omega
    have := digFrom_rng (l := s.data.toList) (n := 0) (Int.le_refl _)
    refine ⟨this.1, Int.lt_of_lt_of_le this.2 ?_⟩
    have hp := Nat.pow_le_pow_right (n := 10) (by decide) h9
    have hl : s.data.toList.length = s.size := by simp
    rw [hl, Int.zero_add, Int.one_mul]
    have e : ((10 : Int) ^ s.size) = ((10 ^ s.size : Nat) : Int) := by simp
    rw [e]
    have h2 : ((10 ^ s.size : Nat) : Int) ≤ ((10 ^ 9 : Nat) : Int) := Int.ofNat_le.2 hp
    have h3 : ((10 ^ 9 : Nat) : Int) = 1000000000 := by decide
    omega
theorem vc155 : ∀ (s : ByteArray), wpF Tryz.prog G502 (na ()) Tryz.f155 cSigned (s, ()) = (ByteArray.size s ≤ (1000000 : Nat) → (decide ((0 : Int) < (↑(ByteArray.size s) : Int)) = true → (0 : Int) ≤ (0 : Int) ∧ (0 : Int) < (↑(ByteArray.size s) : Int)) ∧ ((bif decide ((0 : Int) < (↑(ByteArray.size s) : Int)) then (↑(UInt8.toNat (List.getD s.data.toList (0 : Nat) (0 : UInt8))) : Int) == (45 : Int) else false) = true → (((0 : Int) ≤ (1 : Int) ∧ (1 : Int) ≤ (↑(ByteArray.size s) : Int) ∧ (↑(ByteArray.size s) : Int) ≤ (↑(ByteArray.size s) : Int)) ∧ ByteArray.size (ByteArray.extract s (1 : Nat) (ByteArray.size s)) ≤ (1000000 : Nat)) ∧ ((-9223372036854775808 : Int) ≤ (0 : Int) - (digitsF (ByteArray.extract s (1 : Nat) (ByteArray.size s))).fst ∧ (0 : Int) - (digitsF (ByteArray.extract s (1 : Nat) (ByteArray.size s))).fst ≤ (9223372036854775807 : Int)) ∧ (0 : Int) - (digitsF (ByteArray.extract s (1 : Nat) (ByteArray.size s))).fst = (signedF s).fst ∧ (bif (digitsF (ByteArray.extract s (1 : Nat) (ByteArray.size s))).snd then decide ((0 : Int) < (digitsF (ByteArray.extract s (1 : Nat) (ByteArray.size s))).fst) else false) = (signedF s).snd) ∧ ((bif decide ((0 : Int) < (↑(ByteArray.size s) : Int)) then (↑(UInt8.toNat (List.getD s.data.toList (0 : Nat) (0 : UInt8))) : Int) == (45 : Int) else false) = false → ByteArray.size s ≤ (1000000 : Nat) ∧ (digitsF s).fst = (signedF s).fst ∧ (digitsF s).snd = (signedF s).snd)) := by
  intros
  kernel_rfl
theorem wp155 (s : ByteArray) : wpF Tryz.prog G502 (na ()) Tryz.f155 cSigned (s, ()) := by
  refine (vc155 s).mpr ?_
  intro hs
  have g : (bif decide (0 < (s.size : Int)) then (((s.data.toList.getD 0 0).toNat : Int) == 45) else false) = decide (0 < s.size ∧ byteAt s 0 = 45) := by
    have e3 : decide (0 < (s.size : Int)) = decide (0 < s.size) := by rw [decide_eq_decide]; omega
    have e4 : (((s.data.toList.getD 0 0).toNat : Int) == 45) = decide (byteAt s 0 = 45) := by rw [Bool.eq_iff_iff]; simp [byteAt]
    rw [e3, e4, Bool.decide_and]
    cases decide (0 < s.size) <;> rfl
  rw [g]
  refine ⟨fun h => ⟨Int.le_refl _, by simpa using h⟩, fun h => ?_, fun h => ?_⟩
  · have h := of_decide_eq_true h
    have e : signedF s = (-(digitsF (s.extract 1 s.size)).1, (digitsF (s.extract 1 s.size)).2 && decide (0 < (digitsF (s.extract 1 s.size)).1)) := by unfold signedF; rw [if_pos h]
    have hr := digitsF_rng (s.extract 1 s.size)
    rw [e]
    refine ⟨⟨by omega, by rw [ByteArray.size_extract]; omega⟩, by omega, by omega, ?_⟩
    cases (digitsF (s.extract 1 s.size)).2 <;> rfl
  · have h := of_decide_eq_false h
    have e : signedF s = digitsF s := by unfold signedF; rw [if_neg h]
    rw [e]; exact ⟨hs, rfl, rfl⟩
theorem ok155 : Ok Tryz.prog 155 cSigned := ok_of_wp mixed g502 (by kernel_rfl) (by kernel_rfl) na fun xx => wp155 xx.1
abbrev G503 : Gam := (155, cSigned) :: G502
theorem g503 : GamOk Tryz.prog G503 := .cons ok155 g502
def hasPre (s p : ByteArray) : Bool := decide (p.size ≤ s.size) && ((s.extract 0 p.size).toList == p.toList)
def hasSuf (s p : ByteArray) : Bool := decide (p.size ≤ s.size) && ((s.extract (s.size - p.size) s.size).toList == p.toList)
theorem hasPre_le {s p : ByteArray} (h : hasPre s p = true) : p.size ≤ s.size := by
  unfold hasPre at h
  simp only [Bool.and_eq_true, decide_eq_true_eq] at h
  exact h.1
theorem hasSuf_le {s p : ByteArray} (h : hasSuf s p = true) : p.size ≤ s.size := by
  unfold hasSuf at h
  simp only [Bool.and_eq_true, decide_eq_true_eq] at h
  exact h.1
def cHasPre : Con := { args := [taS, taS], ress := [tB], owns := [], pre := fun (s, p, _) => [s.size ≤ 1000000, p.size ≤ 1000000], spec := fun (s, p, _) => (hasPre s p, ()) }
theorem vc239 : ∀ (s p : ByteArray), wpF Tryz.prog G503 (na ()) Tryz.f239 cHasPre (s, p, ()) = (ByteArray.size s ≤ (1000000 : Nat) → ByteArray.size p ≤ (1000000 : Nat) → (decide ((↑(ByteArray.size p) : Int) ≤ (↑(ByteArray.size s) : Int)) = true → (0 : Int) ≤ (0 : Int) ∧ (0 : Int) ≤ (↑(ByteArray.size p) : Int) ∧ (↑(ByteArray.size p) : Int) ≤ (↑(ByteArray.size s) : Int)) ∧ (bif decide ((↑(ByteArray.size p) : Int) ≤ (↑(ByteArray.size s) : Int)) then ByteArray.toList (ByteArray.extract s (0 : Nat) (ByteArray.size p)) == ByteArray.toList p else false) = hasPre s p) := by
  intros
  kernel_rfl
theorem wp239 (s p : ByteArray) : wpF Tryz.prog G503 (na ()) Tryz.f239 cHasPre (s, p, ()) := by
  refine (vc239 s p).mpr ?_
  intro h1 h2
  refine ⟨fun h => ⟨Int.le_refl _, by omega, by simpa using h⟩, ?_⟩
  have e3 : decide ((p.size : Int) ≤ (s.size : Int)) = decide (p.size ≤ s.size) := by rw [decide_eq_decide]; omega
  unfold hasPre
  rw [e3]; cases decide (p.size ≤ s.size) <;> rfl
theorem ok239 : Ok Tryz.prog 239 cHasPre := ok_of_wp mixed g503 (by kernel_rfl) (by kernel_rfl) na fun xx => wp239 xx.1 xx.2.1
abbrev G504 : Gam := (239, cHasPre) :: G503
theorem g504 : GamOk Tryz.prog G504 := .cons ok239 g503
def trimP (s p : ByteArray) : ByteArray := if hasPre s p = true then s.extract p.size s.size else s
def cTrimP : Con := { args := [taS, taS], ress := [tS], owns := [], pre := fun (s, p, _) => [s.size ≤ 1000000, p.size ≤ 1000000], spec := fun (s, p, _) => (trimP s p, ()) }
theorem vc225 : ∀ (s p : ByteArray), wpF Tryz.prog G504 (na ()) Tryz.f225 cTrimP (s, p, ()) = (ByteArray.size s ≤ (1000000 : Nat) → ByteArray.size p ≤ (1000000 : Nat) → (ByteArray.size s ≤ (1000000 : Nat) ∧ ByteArray.size p ≤ (1000000 : Nat)) ∧ (hasPre s p = true → ((0 : Int) ≤ (↑(ByteArray.size p) : Int) ∧ (↑(ByteArray.size p) : Int) ≤ (↑(ByteArray.size s) : Int) ∧ (↑(ByteArray.size s) : Int) ≤ (↑(ByteArray.size s) : Int)) ∧ ByteArray.extract s (ByteArray.size p) (ByteArray.size s) = trimP s p) ∧ (hasPre s p = false → s = trimP s p)) := by
  intros
  kernel_rfl
theorem wp225 (s p : ByteArray) : wpF Tryz.prog G504 (na ()) Tryz.f225 cTrimP (s, p, ()) := by
  refine (vc225 s p).mpr ?_
  intro h1 h2
  refine ⟨⟨h1, h2⟩, fun h => ⟨⟨by omega, by have := hasPre_le h; omega, Int.le_refl _⟩, by unfold trimP; rw [if_pos h]⟩, fun h => by unfold trimP; rw [h]; rfl⟩
theorem ok225 : Ok Tryz.prog 225 cTrimP := ok_of_wp mixed g504 (by kernel_rfl) (by kernel_rfl) na fun xx => wp225 xx.1 xx.2.1
abbrev G505 : Gam := (225, cTrimP) :: G504
theorem g505 : GamOk Tryz.prog G505 := .cons ok225 g504
theorem vc213 : ∀ (s p : ByteArray), wpF Tryz.prog G505 (na ()) Tryz.f213 cTrimP (s, p, ()) = (ByteArray.size s ≤ (1000000 : Nat) → ByteArray.size p ≤ (1000000 : Nat) → (ByteArray.size s ≤ (1000000 : Nat) ∧ ByteArray.size p ≤ (1000000 : Nat)) ∧ trimP s p = trimP s p) := by
  intros
  kernel_rfl
theorem wp213 (s p : ByteArray) : wpF Tryz.prog G505 (na ()) Tryz.f213 cTrimP (s, p, ()) := by
  refine (vc213 s p).mpr ?_
  exact fun h1 h2 => ⟨⟨h1, h2⟩, rfl⟩
theorem ok213 : Ok Tryz.prog 213 cTrimP := ok_of_wp mixed g505 (by kernel_rfl) (by kernel_rfl) na fun xx => wp213 xx.1 xx.2.1
abbrev G506 : Gam := (213, cTrimP) :: G505
theorem g506 : GamOk Tryz.prog G506 := .cons ok213 g505
def cHasSuf : Con := { args := [taS, taS], ress := [tB], owns := [], pre := fun (s, p, _) => [s.size ≤ 1000000, p.size ≤ 1000000], spec := fun (s, p, _) => (hasSuf s p, ()) }
theorem vc194 : ∀ (s p : ByteArray), wpF Tryz.prog G506 (na ()) Tryz.f194 cHasSuf (s, p, ()) = (ByteArray.size s ≤ (1000000 : Nat) → ByteArray.size p ≤ (1000000 : Nat) → ((decide ((↑(ByteArray.size p) : Int) ≤ (↑(ByteArray.size s) : Int)) = true → (-9223372036854775808 : Int) ≤ (↑(ByteArray.size s) : Int) - (↑(ByteArray.size p) : Int) ∧ (↑(ByteArray.size s) : Int) - (↑(ByteArray.size p) : Int) ≤ (9223372036854775807 : Int)) ∧ (decide ((↑(ByteArray.size p) : Int) ≤ (↑(ByteArray.size s) : Int)) = true → (0 : Int) ≤ (↑(ByteArray.size s) : Int) - (↑(ByteArray.size p) : Int) ∧ (↑(ByteArray.size s) : Int) - (↑(ByteArray.size p) : Int) ≤ (↑(ByteArray.size s) : Int) ∧ (↑(ByteArray.size s) : Int) ≤ (↑(ByteArray.size s) : Int))) ∧ (bif decide ((↑(ByteArray.size p) : Int) ≤ (↑(ByteArray.size s) : Int)) then ByteArray.toList (ByteArray.extract s (Int.toNat ((↑(ByteArray.size s) : Int) - (↑(ByteArray.size p) : Int))) (ByteArray.size s)) == ByteArray.toList p else false) = hasSuf s p) := by
  intros
  kernel_rfl
theorem wp194 (s p : ByteArray) : wpF Tryz.prog G506 (na ()) Tryz.f194 cHasSuf (s, p, ()) := by
  refine (vc194 s p).mpr ?_
  intro h1 h2
  refine ⟨⟨fun h => by omega, fun h => by have : (p.size : Int) ≤ s.size := by simpa using h
                                          omega⟩, ?_⟩
  have e3 : decide ((p.size : Int) ≤ (s.size : Int)) = decide (p.size ≤ s.size) := by rw [decide_eq_decide]; omega
  have e4 : ((s.size : Int) - (p.size : Int)).toNat = s.size - p.size := by omega
  unfold hasSuf
  rw [e3, e4]; cases decide (p.size ≤ s.size) <;> rfl
theorem ok194 : Ok Tryz.prog 194 cHasSuf := ok_of_wp mixed g506 (by kernel_rfl) (by kernel_rfl) na fun xx => wp194 xx.1 xx.2.1
abbrev G507 : Gam := (194, cHasSuf) :: G506
theorem g507 : GamOk Tryz.prog G507 := .cons ok194 g506
def cutSuf (s p : ByteArray) : ByteArray := if hasSuf s p = true then s.extract 0 (s.size - p.size) else s
def cCutSuf : Con := { args := [taS, taS], ress := [tS, tB], owns := [], pre := fun (s, p, _) => [s.size ≤ 1000000, p.size ≤ 1000000], spec := fun (s, p, _) => (cutSuf s p, hasSuf s p, ()) }
theorem vc174 : ∀ (s p : ByteArray), wpF Tryz.prog G507 (na ()) Tryz.f174 cCutSuf (s, p, ()) = (ByteArray.size s ≤ (1000000 : Nat) → ByteArray.size p ≤ (1000000 : Nat) → (ByteArray.size s ≤ (1000000 : Nat) ∧ ByteArray.size p ≤ (1000000 : Nat)) ∧ ((!hasSuf s p) = true → s = cutSuf s p ∧ false = hasSuf s p) ∧ ((!hasSuf s p) = false → (((-9223372036854775808 : Int) ≤ (↑(ByteArray.size s) : Int) - (↑(ByteArray.size p) : Int) ∧ (↑(ByteArray.size s) : Int) - (↑(ByteArray.size p) : Int) ≤ (9223372036854775807 : Int)) ∧ (0 : Int) ≤ (0 : Int) ∧ (0 : Int) ≤ (↑(ByteArray.size s) : Int) - (↑(ByteArray.size p) : Int) ∧ (↑(ByteArray.size s) : Int) - (↑(ByteArray.size p) : Int) ≤ (↑(ByteArray.size s) : Int)) ∧ ByteArray.extract s (0 : Nat) (Int.toNat ((↑(ByteArray.size s) : Int) - (↑(ByteArray.size p) : Int))) = cutSuf s p ∧ true = hasSuf s p)) := by
  intros
  kernel_rfl
theorem wp174 (s p : ByteArray) : wpF Tryz.prog G507 (na ()) Tryz.f174 cCutSuf (s, p, ()) := by
  refine (vc174 s p).mpr ?_
  intro h1 h2
  refine ⟨⟨h1, h2⟩, fun h => ?_, fun h => ?_⟩
  · have h : hasSuf s p = false := by simpa using h
    unfold cutSuf; rw [h]; exact ⟨rfl, rfl⟩
  · have h : hasSuf s p = true := by simpa using h
    have hl := hasSuf_le h
    have e4 : ((s.size : Int) - (p.size : Int)).toNat = s.size - p.size := by omega
    unfold cutSuf; rw [h, e4]; exact ⟨by omega, rfl, rfl⟩
theorem ok174 : Ok Tryz.prog 174 cCutSuf := ok_of_wp mixed g507 (by kernel_rfl) (by kernel_rfl) na fun xx => wp174 xx.1 xx.2.1
abbrev G508 : Gam := (174, cCutSuf) :: G507
theorem g508 : GamOk Tryz.prog G508 := .cons ok174 g507
theorem vc152 : ∀ (s p : ByteArray), wpF Tryz.prog G508 (na ()) Tryz.f152 cCutSuf (s, p, ()) = (ByteArray.size s ≤ (1000000 : Nat) → ByteArray.size p ≤ (1000000 : Nat) → (ByteArray.size s ≤ (1000000 : Nat) ∧ ByteArray.size p ≤ (1000000 : Nat)) ∧ cutSuf s p = cutSuf s p ∧ hasSuf s p = hasSuf s p) := by
  intros
  kernel_rfl
theorem wp152 (s p : ByteArray) : wpF Tryz.prog G508 (na ()) Tryz.f152 cCutSuf (s, p, ()) := by
  refine (vc152 s p).mpr ?_
  exact fun h1 h2 => ⟨⟨h1, h2⟩, rfl, rfl⟩
theorem ok152 : Ok Tryz.prog 152 cCutSuf := ok_of_wp mixed g508 (by kernel_rfl) (by kernel_rfl) na fun xx => wp152 xx.1 xx.2.1
abbrev G509 : Gam := (152, cCutSuf) :: G508
theorem g509 : GamOk Tryz.prog G509 := .cons ok152 g508
def splitL (c : UInt8) : List UInt8 → List (List UInt8)
  | [] => [[]]
  | x :: r => if x = c then [] :: splitL c r else match splitL c r with
    | [] => [[x]]
    | h :: t => (x :: h) :: t
def bs (l : List UInt8) : ByteArray := ⟨l.toArray⟩
def splitF (s : ByteArray) (c : Int) : List ByteArray := (splitL (UInt8.ofNat c.toNat) s.data.toList).map bs
def glue (o : List ByteArray) : List (List UInt8) → List ByteArray
  | [] => o
  | h :: t => o.dropLast ++ bs ((o.getLastD ByteArray.empty).data.toList ++ h) :: t.map bs
theorem splitL_ne (c : UInt8) : ∀ l, splitL c l ≠ []
  | [] => by simp [splitL]
  | x :: r => by
    unfold splitL
    split
    · simp
    · split <;> simp
theorem splitL_cons (c x : UInt8) (r : List UInt8) : splitL c (x :: r) = if x = c then [] :: splitL c r else match splitL c r with
    | [] => [[x]]
    | h :: t => (x :: h) :: t := rfl
theorem glue_new (d : List ByteArray) (a : ByteArray) (t : List (List UInt8)) (ht : t ≠ []) : glue (d ++ [a] ++ [bs []]) t = glue (d ++ [a]) ([] :: t) := by
  cases t with
  | nil => exact absurd rfl ht
  | cons h t =>
    simp only [glue, List.dropLast_concat, List.getLastD_concat]
    simp [bs]
theorem glue_more (d : List ByteArray) (a : ByteArray) (x : UInt8) (h : List UInt8) (t : List (List UInt8)) : glue (d ++ [bs (a.data.toList ++ [x])]) (h :: t) = glue (d ++ [a]) ((x :: h) :: t) := by
  simp only [glue, List.dropLast_concat, List.getLastD_concat]
  simp [bs]
theorem glue_end (d : List ByteArray) (a : ByteArray) : glue (d ++ [a]) [[]] = d ++ [a] := by
  simp only [glue, List.dropLast_concat, List.getLastD_concat]
  simp [bs]
theorem extract_one {s : ByteArray} {j : Nat} (h : j < s.size) : (s.extract j (j + 1)).data.toList = [s.data.toList.getD j 0] := by
  have hl : j < s.data.toList.length := by simpa using h
  rw [ByteArray.data_extract, Array.toList_extract, List.extract_eq_take_drop, List.drop_eq_getElem_cons hl, List.getD_eq_getElem?_getD, List.getElem?_eq_getElem hl]
  simp
def cSplitR : Con := { args := [taS, taU], ress := [tSs], owns := [], pre := fun (s, c, _) => [s.size ≤ 1000000, 0 ≤ c, c < 256], spec := fun (s, c, _) => (splitF s c, ()) }
abbrev annSplitR (s : ByteArray) (c : Int) : Ann := { X := List ByteArray × Int, σ := fun p => ⟨1, [(0, .one (.str s)), (1, .one (.int .u8 c)), (5, .one (.sl 0)), (6, .one (.int .i64 p.2))], [(0, .own 9 .str p.1)]⟩, inv := fun p => p.1 ≠ [] ∧ p.1.length ≤ p.2.toNat + 1 ∧ (∀ a ∈ p.1, a.size ≤ p.2.toNat) ∧ 0 ≤ p.2 ∧ p.2 ≤ s.size ∧ glue p.1 (splitL (UInt8.ofNat c.toNat) (s.data.toList.drop p.2.toNat)) = splitF s c, mu := fun p => s.size - p.2.toNat }
theorem vc93 : ∀ (s : ByteArray) (c : Int), wpF Tryz.prog G509 (ann0 (annSplitR s c)) Tryz.f93 cSplitR (s, c, ()) = (ByteArray.size s ≤ (1000000 : Nat) → (0 : Int) ≤ c → c < (256 : Int) → ∃ (x : List ByteArray × Int), (s = s ∧ c = c ∧ (0 : Int) = x.snd ∧ [ByteArray.mk (Array.mk [])] = x.fst) ∧ ((x.fst = [] → False) ∧ List.length x.fst ≤ Int.toNat x.snd + (1 : Nat) ∧ (∀ (a : ByteArray), a ∈ x.fst → ByteArray.size a ≤ Int.toNat x.snd) ∧ (0 : Int) ≤ x.snd ∧ x.snd ≤ (↑(ByteArray.size s) : Int) ∧ glue x.fst (splitL (UInt8.ofNat (Int.toNat c)) (List.drop (Int.toNat x.snd) s.data.toList)) = splitF s c) ∧ ∀ (x : List ByteArray × Int), (x.fst = [] → False) ∧ List.length x.fst ≤ Int.toNat x.snd + (1 : Nat) ∧ (∀ (a : ByteArray), a ∈ x.fst → ByteArray.size a ≤ Int.toNat x.snd) ∧ (0 : Int) ≤ x.snd ∧ x.snd ≤ (↑(ByteArray.size s) : Int) ∧ glue x.fst (splitL (UInt8.ofNat (Int.toNat c)) (List.drop (Int.toNat x.snd) s.data.toList)) = splitF s c → (decide (x.snd < (↑(ByteArray.size s) : Int)) = true → ((0 : Int) ≤ x.snd ∧ x.snd < (↑(ByteArray.size s) : Int)) ∧ (((↑(UInt8.toNat (List.getD s.data.toList (Int.toNat x.snd) (0 : UInt8))) : Int) == c) = true → (List.length x.1 + (1 : Nat)) * (16 : Nat) ≤ (140737488355328 : Nat) ∧ ((-9223372036854775808 : Int) ≤ x.snd + (1 : Int) ∧ x.snd + (1 : Int) ≤ (9223372036854775807 : Int)) ∧ ∃ (y : List ByteArray × Int), (s = s ∧ c = c ∧ x.snd + (1 : Int) = y.snd ∧ x.1 ++ [ByteArray.mk (Array.mk [])] = y.fst) ∧ ((y.fst = [] → False) ∧ List.length y.fst ≤ Int.toNat y.snd + (1 : Nat) ∧ (∀ (a : ByteArray), a ∈ y.fst → ByteArray.size a ≤ Int.toNat y.snd) ∧ (0 : Int) ≤ y.snd ∧ y.snd ≤ (↑(ByteArray.size s) : Int) ∧ glue y.fst (splitL (UInt8.ofNat (Int.toNat c)) (List.drop (Int.toNat y.snd) s.data.toList)) = splitF s c) ∧ ByteArray.size s - Int.toNat y.snd < ByteArray.size s - Int.toNat x.snd) ∧ (((↑(UInt8.toNat (List.getD s.data.toList (Int.toNat x.snd) (0 : UInt8))) : Int) == c) = false → (((-9223372036854775808 : Int) ≤ (↑(List.length x.fst) : Int) - (1 : Int) ∧ (↑(List.length x.fst) : Int) - (1 : Int) ≤ (9223372036854775807 : Int)) ∧ ((-9223372036854775808 : Int) ≤ (↑(List.length x.fst) : Int) - (1 : Int) ∧ (↑(List.length x.fst) : Int) - (1 : Int) ≤ (9223372036854775807 : Int)) ∧ ((0 : Int) ≤ (↑(List.length x.fst) : Int) - (1 : Int) ∧ (↑(List.length x.fst) : Int) - (1 : Int) < (↑(List.length x.fst) : Int)) ∧ ((0 : Int) ≤ (↑(List.length x.fst) : Int) - (1 : Int) ∧ (↑(List.length x.fst) : Int) - (1 : Int) < (↑(List.length x.fst) : Int)) ∧ ((-9223372036854775808 : Int) ≤ x.snd + (1 : Int) ∧ x.snd + (1 : Int) ≤ (9223372036854775807 : Int)) ∧ ((0 : Int) ≤ x.snd ∧ x.snd ≤ x.snd + (1 : Int) ∧ x.snd + (1 : Int) ≤ (↑(ByteArray.size s) : Int)) ∧ (↑(ByteArray.size (List.getD x.fst (Int.toNat ((↑(List.length x.fst) : Int) - (1 : Int))) (ByteArray.mk (Array.mk []))) + ByteArray.size (ByteArray.extract s (Int.toNat x.snd) (Int.toNat (x.snd + (1 : Int))))) : Int) ≤ (9223372036854775807 : Int) ∧ ((0 : Int) ≤ (↑(List.length x.fst) : Int) - (1 : Int) ∧ (↑(List.length x.fst) : Int) - (1 : Int) < (↑(List.length x.fst) : Int)) ∧ (0 : Int) ≤ (↑(List.length x.fst) : Int) - (1 : Int) ∧ (↑(List.length x.fst) : Int) - (1 : Int) < (↑(List.length x.fst) : Int)) ∧ ((-9223372036854775808 : Int) ≤ x.snd + (1 : Int) ∧ x.snd + (1 : Int) ≤ (9223372036854775807 : Int)) ∧ ∃ (y : List ByteArray × Int), (s = s ∧ c = c ∧ x.snd + (1 : Int) = y.snd ∧ List.set x.fst (Int.toNat ((↑(List.length x.fst) : Int) - (1 : Int))) (ByteArray.mk (Array.mk ((List.getD x.fst (Int.toNat ((↑(List.length x.fst) : Int) - (1 : Int))) (ByteArray.mk (Array.mk []))).data.toList ++ (ByteArray.extract s (Int.toNat x.snd) (Int.toNat (x.snd + (1 : Int)))).data.toList))) = y.fst) ∧ ((y.fst = [] → False) ∧ List.length y.fst ≤ Int.toNat y.snd + (1 : Nat) ∧ (∀ (a : ByteArray), a ∈ y.fst → ByteArray.size a ≤ Int.toNat y.snd) ∧ (0 : Int) ≤ y.snd ∧ y.snd ≤ (↑(ByteArray.size s) : Int) ∧ glue y.fst (splitL (UInt8.ofNat (Int.toNat c)) (List.drop (Int.toNat y.snd) s.data.toList)) = splitF s c) ∧ ByteArray.size s - Int.toNat y.snd < ByteArray.size s - Int.toNat x.snd)) ∧ (decide (x.snd < (↑(ByteArray.size s) : Int)) = false → x.1 = splitF s c)) := by
  intros
  kernel_rfl
theorem wp93 (s : ByteArray) (c : Int) : wpF Tryz.prog G509 (ann0 (annSplitR s c)) Tryz.f93 cSplitR (s, c, ()) := by
  refine (vc93 s c).mpr ?_
  intro hs hc0 hc1
  have hl : s.data.toList.length = s.size := by simp
  refine ⟨([bs []], 0), ⟨rfl, rfl, rfl, rfl⟩, ⟨by simp, by simp, fun a ha => by have : a = bs [] := by simpa using ha
                                                                                rw [this]; exact Nat.le_refl _, Int.le_refl _, by omega, ?_⟩, ?_⟩
  · have := splitL_ne (UInt8.ofNat c.toNat) s.data.toList
    unfold splitF
    cases h : splitL (UInt8.ofNat c.toNat) s.data.toList with
    | nil => exact absurd h this
    | cons x r => simp only [Int.toNat_zero, List.drop_zero, h]; simp [glue, bs]
  · rintro ⟨o, i⟩ ⟨ho, hlen, hsz, hi0, hi1, hg⟩
    dsimp only at ho hlen hsz hi0 hi1 hg ⊢
    obtain ⟨j, rfl⟩ := Int.eq_ofNat_of_zero_le hi0
    obtain ⟨d, a, rfl⟩ : ∃ d a, o = d ++ [a] := by
      rcases List.eq_nil_or_concat o with h | ⟨d, a, h⟩
      · exact absurd h ho
      · exact ⟨d, a, by simpa using h⟩
    refine ⟨fun hlt => ?_, fun hlt => ?_⟩
    · have hlt : j < s.size := by simpa using hlt
      have hd : s.data.toList.drop j = s.data.toList.getD j 0 :: s.data.toList.drop (j + 1) := by
        rw [List.drop_eq_getElem_cons (by omega), List.getD_eq_getElem?_getD, List.getElem?_eq_getElem (by omega)]; rfl
      simp only [Int.toNat_natCast] at hlen hsz hg ⊢
      rw [hd] at hg
      have hex := extract_one hlt
      generalize hx : s.data.toList.getD j 0 = x at *
      have hlen2 : d.length + 1 ≤ j + 1 := by simpa using hlen
      have ha : a.size ≤ j := hsz a (by simp)
      refine ⟨by omega, fun hb => ?_, fun hb => ?_⟩
      · have hb : (x.toNat : Int) = c := by simpa using hb
        have hxc : x = UInt8.ofNat c.toNat := by rw [← hb]; simp
        rw [show splitL (UInt8.ofNat c.toNat) (x :: s.data.toList.drop (j + 1)) = [] :: splitL (UInt8.ofNat c.toNat) (s.data.toList.drop (j + 1)) by rw [splitL_cons, if_pos hxc]] at hg
        refine ⟨by simp; omega, by omega, (d ++ [a] ++ [bs []], ((j + 1 : Nat) : Int)), ⟨trivial, trivial, by simp, rfl⟩, ⟨by simp, by simp; omega, fun b hb => ?_, by dsimp only; omega, by dsimp only; omega, ?_⟩, by simp; omega⟩
        · simp only [Int.toNat_natCast]
          rcases List.mem_append.1 hb with hb | hb
          · exact Nat.le_succ_of_le (hsz b hb)
          · have : b = bs [] := by simpa using hb
            rw [this]; exact Nat.zero_le _
        · simp only [Int.toNat_natCast]
          rw [glue_new _ _ _ (splitL_ne _ _)]; exact hg
      · have hb : ¬ (x.toNat : Int) = c := by simpa using hb
        have hxc : ¬ x = UInt8.ofNat c.toNat := by
          rintro rfl
          apply hb
          rw [UInt8.toNat_ofNat_of_lt' (by show c.toNat < 256; omega)]
          omega
        obtain ⟨h, t, ht⟩ : ∃ h t, splitL (UInt8.ofNat c.toNat) (s.data.toList.drop (j + 1)) = h :: t := by
          cases h0 : splitL (UInt8.ofNat c.toNat) (s.data.toList.drop (j + 1)) with
          | nil => exact absurd h0 (splitL_ne _ _)
          | cons h t => exact ⟨h, t, rfl⟩
        rw [show splitL (UInt8.ofNat c.toNat) (x :: s.data.toList.drop (j + 1)) = (x :: h) :: t by rw [splitL_cons, if_neg hxc, ht]] at hg
        have ej : ((j : Int) + 1).toNat = j + 1 := by omega
        have el : ((((d ++ [a]).length : Nat) : Int) - 1).toNat = d.length := by simp
        have ep : (d ++ [a]).getD d.length (⟨⟨[]⟩⟩ : ByteArray) = a := by simp [List.getD_eq_getElem?_getD]
        have es : ∀ v, (d ++ [a]).set d.length v = d ++ [v] := fun v => by simp
        have ex : (s.extract j (j + 1)).size = 1 := by rw [ByteArray.size_extract]; omega
        have elen : (d ++ [a]).length = d.length + 1 := by simp
        rw [ej, el, ep, es, hex, ex]
        refine ⟨⟨by omega, by omega, by omega, by omega, by omega, by omega, by omega, by omega, by omega⟩, by omega, (d ++ [bs (a.data.toList ++ [x])], ((j + 1 : Nat) : Int)), ⟨trivial, trivial, by simp, rfl⟩, ⟨by simp, by simp; omega, fun b hb => ?_, by dsimp only; omega, by dsimp only; omega, ?_⟩, by simp; omega⟩
        · simp only [Int.toNat_natCast]
          rcases List.mem_append.1 hb with hb | hb
          · exact Nat.le_succ_of_le (hsz b (by simp [hb]))
          · have : b = bs (a.data.toList ++ [x]) := by simpa using hb
            rw [this]
            have : a.data.toList.length = a.size := by simp
            show (a.data.toList ++ [x]).toArray.size ≤ j + 1
            simp; omega
        · simp only [Int.toNat_natCast]
          rw [ht, glue_more]; exact hg
    · have hj : j = s.size := by have : ¬ ((j : Int) < s.size) := by simpa using hlt
                                 omega
      simp only [Int.toNat_natCast] at hg
      rw [List.drop_eq_nil_of_le (by omega)] at hg
      rw [← hg, splitL, glue_end]
theorem ok93 : Ok Tryz.prog 93 cSplitR := ok_of_wp mixed g509 (by kernel_rfl) (by kernel_rfl) (fun xx => ann0 (annSplitR xx.1 xx.2.1)) fun xx => wp93 xx.1 xx.2.1
abbrev G510 : Gam := (93, cSplitR) :: G509
theorem g510 : GamOk Tryz.prog G510 := .cons ok93 g509
end Go.Proofs.YtacaadhlobbemaaGreatDoor
namespace Go.Proofs.YtacaadhlobbemaaGreatDoor
open Go.Sx
def textS (n : Int) : ByteArray := ⟨(Lib.itoa n).toArray⟩
def cText (k : Nat) : Con := { args := [taI], ress := [tS], owns := [], pre := fun (n, _) => [k ≤ 18, -(10 ^ k : Int) < n, n < 10 ^ (k + 1)], spec := fun (n, _) => (textS n, ()) }
theorem vc1540 : ∀ (n : Int), wpF Tryz.prog G510 (na ()) Tryz.f154 (cText (0 : Nat)) (n, ()) = ((0 : Nat) ≤ (18 : Nat) → -(10 : Int) ^ (0 : Nat) < n → n < (10 : Int) ^ (1 : Nat) → (decide (n < (0 : Int)) = true → (decide ((-10 : Int) < n) = true → STUCK (3 : Nat) (2 : Nat)) ∧ (decide ((-10 : Int) < n) = false → STUCK (4 : Nat) (2 : Nat))) ∧ (decide (n < (0 : Int)) = false → (decide (n < (10 : Int)) = true → (((-9223372036854775808 : Int) ≤ (48 : Int) + n ∧ (48 : Int) + n ≤ (9223372036854775807 : Int)) ∧ (0 : Nat) < (1 : Nat)) ∧ ByteArray.mk (Array.mk [UInt8.ofNat (Int.toNat (IntKind.wrap IntKind.u8 ((48 : Int) + n)))]) = textS n) ∧ (decide (n < (10 : Int)) = false → STUCK (7 : Nat) (2 : Nat)))) := by
  intros
  kernel_rfl
theorem vc1541 : ∀ (k : Nat) (n : Int), wpF Tryz.prog (((154 : FuncId), cText k) :: G510) (na ()) Tryz.f154 (cText (k + (1 : Nat))) (n, ()) = (k + (1 : Nat) ≤ (18 : Nat) → -(10 : Int) ^ (k + (1 : Nat)) < n → n < (10 : Int) ^ (k + (1 : Nat) + (1 : Nat)) → (decide (n < (0 : Int)) = true → (decide ((-10 : Int) < n) = true → (((-9223372036854775808 : Int) ≤ (0 : Int) - n ∧ (0 : Int) - n ≤ (9223372036854775807 : Int)) ∧ k ≤ (18 : Nat) ∧ -(10 : Int) ^ k < (0 : Int) - n ∧ (0 : Int) - n < (10 : Int) ^ (k + (1 : Nat)) ∧ (↑((1 : Nat) + ByteArray.size (textS ((0 : Int) - n))) : Int) ≤ (9223372036854775807 : Int)) ∧ ByteArray.mk (Array.mk ((45 : UInt8) :: ([] ++ (textS ((0 : Int) - n)).data.toList))) = textS n) ∧ (decide ((-10 : Int) < n) = false → (((10 : Int) = (0 : Int) → False) ∧ ((-9223372036854775808 : Int) ≤ Int.tdiv n (10 : Int) ∧ Int.tdiv n (10 : Int) ≤ (9223372036854775807 : Int)) ∧ k ≤ (18 : Nat) ∧ -(10 : Int) ^ k < Int.tdiv n (10 : Int) ∧ Int.tdiv n (10 : Int) < (10 : Int) ^ (k + (1 : Nat)) ∧ ((10 : Int) = (0 : Int) → False) ∧ ((-9223372036854775808 : Int) ≤ (0 : Int) - Int.tmod n (10 : Int) ∧ (0 : Int) - Int.tmod n (10 : Int) ≤ (9223372036854775807 : Int)) ∧ k ≤ (18 : Nat) ∧ -(10 : Int) ^ k < (0 : Int) - Int.tmod n (10 : Int) ∧ (0 : Int) - Int.tmod n (10 : Int) < (10 : Int) ^ (k + (1 : Nat)) ∧ (↑(ByteArray.size (textS (Int.tdiv n (10 : Int))) + ByteArray.size (textS ((0 : Int) - Int.tmod n (10 : Int)))) : Int) ≤ (9223372036854775807 : Int)) ∧ ByteArray.mk (Array.mk ((textS (Int.tdiv n (10 : Int))).data.toList ++ (textS ((0 : Int) - Int.tmod n (10 : Int))).data.toList)) = textS n)) ∧ (decide (n < (0 : Int)) = false → (decide (n < (10 : Int)) = true → (((-9223372036854775808 : Int) ≤ (48 : Int) + n ∧ (48 : Int) + n ≤ (9223372036854775807 : Int)) ∧ (0 : Nat) < (1 : Nat)) ∧ ByteArray.mk (Array.mk [UInt8.ofNat (Int.toNat (IntKind.wrap IntKind.u8 ((48 : Int) + n)))]) = textS n) ∧ (decide (n < (10 : Int)) = false → (((10 : Int) = (0 : Int) → False) ∧ ((-9223372036854775808 : Int) ≤ Int.tdiv n (10 : Int) ∧ Int.tdiv n (10 : Int) ≤ (9223372036854775807 : Int)) ∧ k ≤ (18 : Nat) ∧ -(10 : Int) ^ k < Int.tdiv n (10 : Int) ∧ Int.tdiv n (10 : Int) < (10 : Int) ^ (k + (1 : Nat)) ∧ ((10 : Int) = (0 : Int) → False) ∧ ((-9223372036854775808 : Int) ≤ (48 : Int) + Int.tmod n (10 : Int) ∧ (48 : Int) + Int.tmod n (10 : Int) ≤ (9223372036854775807 : Int)) ∧ (0 : Nat) < (1 : Nat) ∧ (↑(ByteArray.size (textS (Int.tdiv n (10 : Int))) + (1 : Nat)) : Int) ≤ (9223372036854775807 : Int)) ∧ ByteArray.mk (Array.mk ((textS (Int.tdiv n (10 : Int))).data.toList ++ [UInt8.ofNat (Int.toNat (IntKind.wrap IntKind.u8 ((48 : Int) + Int.tmod n (10 : Int))))])) = textS n))) := by
  intros
  kernel_rfl
theorem ts_mk {l : List UInt8} {n : Int} (h : l = Lib.itoa n) : (⟨⟨l⟩⟩ : ByteArray) = textS n := by subst h; rfl
theorem ts_pos (u : Nat) : (textS (u : Int)).data.toList = Lib.decDigits u := by unfold textS; rw [Lib.itoa_nonneg]
theorem ts_neg (u : Nat) (h : 1 ≤ u) : (textS (-(u : Int))).data.toList = 45 :: Lib.decDigits u := by unfold textS; rw [Lib.itoa_neg u h]
theorem ts_size (n : Int) (h0 : -9223372036854775808 ≤ n) (h1 : n ≤ 9223372036854775807) : (textS n).size ≤ 21 := by
  have := Lib.itoa_length_le n h0 h1
  show (Lib.itoa n).toArray.size ≤ 21
  simpa using this
theorem dec_big {u : Nat} (h : ¬ u < 10) : Lib.decDigits u = Lib.decDigits (u / 10) ++ [UInt8.ofNat (48 + u % 10)] := by rw [Lib.decDigits, dif_neg h]
theorem ts_one {x : Nat} (h : x < 10) : UInt8.ofNat (IntKind.u8.wrap (48 + (x : Int))).toNat = UInt8.ofNat (48 + x) := by
  rw [wrap8 (by omega) (by omega)]
  congr 1
theorem pos_small (n : Int) (h0 : ¬ n < 0) (h1 : n < 10) : (⟨⟨[UInt8.ofNat (IntKind.u8.wrap (48 + n)).toNat]⟩⟩ : ByteArray) = textS n := by
  obtain ⟨u, rfl⟩ := Int.eq_ofNat_of_zero_le (by omega : 0 ≤ n)
  refine ts_mk ?_
  have e : Lib.itoa (u : Int) = Lib.decDigits u := Lib.itoa_nonneg u
  have hu : u < 10 := by omega
  rw [e, Lib.decDigits_one hu]
  exact congrArg (· :: []) (ts_one hu)
theorem wp1540 (n : Int) : wpF Tryz.prog G510 (na ()) Tryz.f154 (cText 0) (n, ()) := by
  refine (vc1540 n).mpr ?_
  intro _ h0 h1
  have e0 : (10 : Int) ^ 0 = 1 := rfl
  have e1 : (10 : Int) ^ 1 = 10 := rfl
  rw [e0] at h0
  rw [e1] at h1
  refine ⟨fun h => absurd (of_decide_eq_true h) (by omega), fun h => ⟨fun h2 => ⟨⟨by omega, by decide⟩, pos_small n (of_decide_eq_false h) (of_decide_eq_true h2)⟩, fun h2 => absurd (of_decide_eq_false h2) (by omega)⟩⟩
theorem wp1541 (k : Nat) (n : Int) : wpF Tryz.prog ((154, cText k) :: G510) (na ()) Tryz.f154 (cText (k + 1)) (n, ()) := by
  refine (vc1541 k n).mpr ?_
  intro hk h0 h1
  have hp0 : (0 : Int) < 10 ^ k := Int.pow_pos (by decide)
  have hp1 : (1 : Int) ≤ 10 ^ k := by omega
  have hp2 : (10 : Int) ^ k ≤ 100000000000000000 := by
    have h := Nat.pow_le_pow_right (n := 10) (by decide) (show k ≤ 17 by omega)
    have h2 : ((10 ^ k : Nat) : Int) ≤ ((10 ^ 17 : Nat) : Int) := Int.ofNat_le.2 h
    have h3 : ((10 ^ 17 : Nat) : Int) = 100000000000000000 := by decide
    have e : ((10 : Int) ^ k) = ((10 ^ k : Nat) : Int) := by simp
    omega
  have e1 : (10 : Int) ^ (k + 1) = 10 ^ k * 10 := Int.pow_succ ..
  have e2 : (10 : Int) ^ (k + 1 + 1) = 10 ^ k * 10 * 10 := by rw [Int.pow_succ, e1]
  rw [e1] at h0
  rw [e2] at h1
  rw [e1]
  generalize (10 : Int) ^ k = p at *
  refine ⟨fun h => ⟨fun h2 => ?_, fun h2 => ?_⟩, fun h => ⟨fun h2 => ⟨⟨by have := of_decide_eq_true h2; have := of_decide_eq_false h; omega, by decide⟩, pos_small n (of_decide_eq_false h) (of_decide_eq_true h2)⟩, fun h2 => ?_⟩⟩
  · have h := of_decide_eq_true h
    have h2 := of_decide_eq_true h2
    obtain ⟨u, hu⟩ := Int.eq_ofNat_of_zero_le (by omega : 0 ≤ 0 - n)
    have hn : n = -(u : Int) := by omega
    have hs := ts_size (0 - n) (by omega) (by omega)
    refine ⟨⟨by omega, by omega, by omega, by omega, by omega⟩, ts_mk ?_⟩
    rw [hu, ts_pos, hn, Lib.itoa_neg u (by omega)]; rfl
  · have h := of_decide_eq_true h
    have h2 := of_decide_eq_false h2
    obtain ⟨u, hu⟩ := Int.eq_ofNat_of_zero_le (by omega : 0 ≤ 0 - n)
    have hn : n = -(u : Int) := by omega
    have ed : n.tdiv 10 = -((u / 10 : Nat) : Int) := by rw [hn, Int.neg_tdiv]; rfl
    have em : n.tmod 10 = -((u % 10 : Nat) : Int) := by rw [hn, Int.neg_tmod]; rfl
    have em2 : 0 - n.tmod 10 = ((u % 10 : Nat) : Int) := by rw [em]; omega
    rw [em2, ed]
    have hs1 := ts_size (-((u / 10 : Nat) : Int)) (by omega) (by omega)
    have hs2 := ts_size ((u % 10 : Nat) : Int) (by omega) (by omega)
    refine ⟨⟨by omega, by omega, by omega, by omega, by omega, by omega, by omega, by omega, by omega, by omega, by omega⟩, ts_mk ?_⟩
    rw [ts_neg _ (by omega), ts_pos, hn, Lib.itoa_neg u (by omega), dec_big (u := u) (by omega), Lib.decDigits_one (i := u % 10) (by omega)]; rfl
  · have h := of_decide_eq_false h
    have h2 := of_decide_eq_false h2
    obtain ⟨u, hu⟩ := Int.eq_ofNat_of_zero_le (by omega : 0 ≤ n)
    subst hu
    have ed : (u : Int).tdiv 10 = ((u / 10 : Nat) : Int) := rfl
    have em : (u : Int).tmod 10 = ((u % 10 : Nat) : Int) := rfl
    rw [em, ed]
    have hs1 := ts_size ((u / 10 : Nat) : Int) (by omega) (by omega)
    refine ⟨⟨by omega, by omega, by omega, by omega, by omega, by omega, by omega, by decide, by omega⟩, ts_mk ?_⟩
    rw [ts_pos, Lib.itoa_nonneg, dec_big (u := u) (by omega), ts_one (by omega)]
theorem okText : ∀ k, Ok Tryz.prog 154 (cText k)
  | 0 => ok_of_wp mixed g510 (by kernel_rfl) (by kernel_rfl) na fun xx => wp1540 xx.1
  | k + 1 => ok_of_wp mixed (.cons (okText k) g510) (by kernel_rfl) rfl na fun xx => wp1541 k xx.1
theorem ok154 : Ok Tryz.prog 154 (cText 9) := okText 9
abbrev G511 : Gam := (154, (cText 9)) :: G510
theorem g511 : GamOk Tryz.prog G511 := .cons ok154 g510
end Go.Proofs.YtacaadhlobbemaaGreatDoor
namespace Go.Proofs.YtacaadhlobbemaaGreatDoor
open Go.Sx
abbrev G134 : Gam := (199, cIsDigit) :: G133
theorem g134 : GamOk Tryz.prog G134 := .cons ok199 g133
abbrev G135 : Gam := (178, cDigits) :: G134
theorem g135 : GamOk Tryz.prog G135 := .cons ok178 g134
abbrev G136 : Gam := (155, cSigned) :: G135
theorem g136 : GamOk Tryz.prog G136 := .cons ok155 g135
abbrev G137 : Gam := (239, cHasPre) :: G136
theorem g137 : GamOk Tryz.prog G137 := .cons ok239 g136
abbrev G138 : Gam := (225, cTrimP) :: G137
theorem g138 : GamOk Tryz.prog G138 := .cons ok225 g137
abbrev G139 : Gam := (213, cTrimP) :: G138
theorem g139 : GamOk Tryz.prog G139 := .cons ok213 g138
abbrev G140 : Gam := (194, cHasSuf) :: G139
theorem g140 : GamOk Tryz.prog G140 := .cons ok194 g139
abbrev G141 : Gam := (174, cCutSuf) :: G140
theorem g141 : GamOk Tryz.prog G141 := .cons ok174 g140
abbrev G142 : Gam := (152, cCutSuf) :: G141
theorem g142 : GamOk Tryz.prog G142 := .cons ok152 g141
abbrev G143 : Gam := (93, cSplitR) :: G142
theorem g143 : GamOk Tryz.prog G143 := .cons ok93 g142
abbrev G144 : Gam := (154, (cText 9)) :: G143
theorem g144 : GamOk Tryz.prog G144 := .cons ok154 g143
def indexF (s : ByteArray) (c : Int) : Int := Lib.indexByte s.data.toList c.toNat.toUInt8
def cIndexB : Con := { args := [taS, taU], ress := [tI], owns := [], pre := fun _ => [], spec := fun (s, c, _) => (indexF s c, ()) }
theorem ok173 : Ok Tryz.prog 173 cIndexB := by
  refine ⟨⟨Tryz.f173, by kernel_rfl, by kernel_rfl, by kernel_rfl⟩, fun z hz => (by cases hz), fun F hF => (by cases hF), fun _ x M R w vs hM hg hpre hargs => ?_⟩
  obtain ⟨s, c, u⟩ := x
  obtain ⟨v1, vs1, rfl, ha1, v2, vs2, rfl, ha2, hr⟩ := hargs
  have hr : vs2 = [] := hr
  subst hr
  obtain ⟨cs1, rfl, hc1⟩ := ha1
  obtain ⟨cs2, rfl, hc2⟩ := ha2
  have hc1 : cs1 = [.string s] := hc1
  have hc2 : cs2 = [.int .u8 c] := hc2
  subst hc1; subst hc2
  refine (Tryz.strings_IndexByte s c w).mono ?_
  rintro e w' ⟨rfl, rfl⟩
  exact ⟨M, [.int .i64 (indexF s c)], rfl, RowKit.Below.refl _ _, fun _ h => h, fun b h => .inl h, _, [], rfl, ⟨_, rfl, rfl⟩, rfl⟩
abbrev G145 : Gam := (173, cIndexB) :: G144
theorem g145 : GamOk Tryz.prog G145 := .cons ok173 g144
def splitS (s p : ByteArray) : List ByteArray := Lib.splitB p 0 (Lib.countB s p) s
def cSplit : Con := { args := [taS, taS], ress := [tSs], owns := [true], pre := fun (s, p, _) => [s.size ≤ 1000000, 1 ≤ p.size], spec := fun (s, p, _) => (splitS s p, ()) }
theorem repL_strs' {M : Nat → Prop} {w : World} : ∀ {xs : List ByteArray}, RepL (Rep M w .str) xs (xs.map Value.string)
  | [] => rfl
  | x :: xs => ⟨[.string x], xs.map Value.string, rfl, rfl, repL_strs'⟩
theorem ok175 : Ok Tryz.prog 175 cSplit := by
  refine ⟨⟨Tryz.f175, by kernel_rfl, by kernel_rfl, by kernel_rfl⟩, fun z hz => (by cases hz), fun F hF => (by cases hF), fun _ x M R w vs hM hg hpre hargs => ?_⟩
  obtain ⟨s, p, u⟩ := x
  obtain ⟨v1, vs1, rfl, ha1, v2, vs2, rfl, ha2, hr⟩ := hargs
  have hr : vs2 = [] := hr
  subst hr
  obtain ⟨cs1, rfl, hc1⟩ := ha1
  obtain ⟨cs2, rfl, hc2⟩ := ha2
  have hc1 : cs1 = [.string s] := hc1
  have hc2 : cs2 = [.string p] := hc2
  subst hc1; subst hc2
  have hpre : s.size ≤ 1000000 ∧ 1 ≤ p.size := hpre
  refine (Tryz.strings_Split_shaped s p w (hg w (RowKit.Below.refl _ _)).2.1 (by omega) hpre.2).mono ?_
  rintro e w' ⟨rfl, rfl⟩
  have hlen : (splitS s p).length = Lib.countB s p + 1 := Lib.splitB_all p hpre.2 0 _ s rfl
  have hle := Lib.countB_le p hpre.2 s.size s (Nat.le_refl _)
  refine ⟨M, [_], rfl, ⟨rfl, rfl, rfl, by show w.heap.size ≤ (w.heap.push _).size; simp, fun i hi => ?_⟩, fun _ h => h, fun b h => .inl h, _, [], rfl, ⟨(splitS s p).map Value.string, repL_strs', ⟨by simp [Sch.size, cSplit], .inr ⟨w.heap.size, Lib.countB s p + 1, _, by rw [show (cSplit.spec (s, p, u)).1 = splitS s p from rfl, hlen], Nat.le_refl _, heap_alloc_new w _, by rw [show (cSplit.spec (s, p, u)).1 = splitS s p from rfl, hlen]; exact Nat.le_refl _, ?_, ?_, ?_⟩⟩, ?_⟩, rfl⟩
  · show (w.heap.push _)[i]? = _
    rw [Array.getElem?_push]
    split
    · omega
    · rfl
  · show _ ≤ 9223372036854775807
    have : s.size ≤ 1000000 := hpre.1
    omega
  · show (List.map Value.string (splitS s p)).toArray.size = _
    simp [Sch.size, hlen]
  · show (List.map Value.string (splitS s p)).take ((splitS s p).length * 1) = _
    rw [List.take_of_length_le (by simp)]
  · intro g hgb hM'
    have : w.heap.size = g := Option.some.inj hgb
    have := hM g (.inl hM')
    omega
abbrev G146 : Gam := (175, cSplit) :: G145
theorem g146 : GamOk Tryz.prog G146 := .cons ok175 g145
def minus : ByteArray := ⟨#[45]⟩
def intB (s : ByteArray) : Bool := match Lib.atoiAll s.data.toList with
  | .ok v => ((itoaS v).toList == s.toList) && decide (((trimP s minus).size : Int) ≤ 9)
  | _ => false
def cInteger : Con := { args := [taS], ress := [tI, tB], owns := [], pre := fun (s, _) => [s.size ≤ 1000000], spec := fun (s, _) => (Tryz.intN s, intB s, ()) }
theorem call213 (s : ByteArray) (hs : s.size ≤ 1000000) (w : World) (hg : Sx.Good Tryz.prog w) : Calls Tryz.prog 213 #[.string s, .string minus] w fun e w2 => e = .returned (.string (trimP s minus)) ∧ RowKit.Below w.heap.size w w2 := by
  have h := ok213.2.2.2 rfl (s, minus, ()) (fun _ => False) (fun _ => False) w [.string s, .string minus] (fun b hb => (hb.elim id id).elim) hg ⟨hs, show minus.size ≤ 1000000 by decide⟩ ⟨_, _, rfl, ⟨_, rfl, rfl⟩, _, _, rfl, ⟨_, rfl, rfl⟩, rfl⟩
  refine h.mono ?_
  rintro e w2 ⟨M', vs, rfl, hb, _, _, v, vs', rfl, ⟨cs, rfl, hc⟩, hr⟩
  have hr : vs' = [] := hr
  have hc : cs = [.string (trimP s minus)] := hc
  subst hr; subst hc
  exact ⟨rfl, hb⟩
theorem call196 (s : ByteArray) (hs : s.size ≤ 1000000) (w : World) (hg : Sx.Good Tryz.prog w) : Calls Tryz.prog 196 #[.string s] w fun e w' => e = .returned (.tuple #[.int .i64 (Tryz.intN s), .bool (intB s)]) ∧ RowKit.Below w.heap.size w w' := by
  have hw := hg w (RowKit.Below.refl _ _)
  cases h : Lib.atoiAll s.data.toList
  · rename_i v
    obtain ⟨b0, b1⟩ := Lib.atoiAll_bounds h
    have e1 : Tryz.intN s = v := by unfold Tryz.intN; rw [h]
    have e2 : intB s = (((itoaS v).toList == s.toList) && decide (((trimP s minus).size : Int) ≤ 9)) := by unfold intB; rw [h]
    rw [e1, e2]
    refine Tryz.integer196_ok s (itoaS v) (trimP s minus) v w ?_ (fun w' hb => ?_) fun w' hb => call213 s hs w' (hg.mono hb)
    · refine Calls.mono (Any.strconv_Atoi_ok Tryz.laysAtoi s (by omega) v h w) ?_
      rintro e w' ⟨rfl, rfl | ⟨t, rfl⟩⟩
      · exact ⟨rfl, RowKit.Below.refl _ _⟩
      · exact ⟨rfl, Lib.bytesWorld_below w _ t⟩
    · refine (Tryz.strconv_Itoa v (by omega) (by omega) w' ((hg.mono hb) w' (RowKit.Below.refl _ _)).1).mono ?_
      rintro e w2 ⟨rfl, k, os, rfl⟩
      exact ⟨rfl, below_gd w' k os⟩
  · have e1 : Tryz.intN s = 0 := by unfold Tryz.intN; rw [h]
    have e2 : intB s = false := by unfold intB; rw [h]
    rw [e1, e2]
    obtain ⟨tp, pe, hv⟩ := hw.2.2.1
    refine Tryz.integer196_err s 0 (Tryz.laysAtoi_ren.t 168) w (Calls.mono (Any.strconv_Atoi_syntax_var Tryz.laysAtoi s (by omega) h tp pe w hv) ?_)
    rintro e w' ⟨N, rfl, _, _, hb⟩
    exact ⟨_, rfl, hb⟩
  · have e1 : Tryz.intN s = Lib.atoiSat s.data.toList := by unfold Tryz.intN; rw [h]
    have e2 : intB s = false := by unfold intB; rw [h]
    rw [e1, e2]
    obtain ⟨tp, pe, hv⟩ := hw.2.2.2
    refine Tryz.integer196_err s _ (Tryz.laysAtoi_ren.t 168) w (Calls.mono (Any.strconv_Atoi_range_var Tryz.laysAtoi s (by omega) h tp pe w hv) ?_)
    rintro e w' ⟨N, rfl, _, _, hb⟩
    exact ⟨_, rfl, hb⟩
theorem ok196 : Ok Tryz.prog 196 cInteger := by
  refine ⟨⟨Tryz.f196, by kernel_rfl, by kernel_rfl, by kernel_rfl⟩, fun z hz => (by cases hz), fun F hF => (by cases hF), fun _ x M R w vs hM hg hpre hargs => ?_⟩
  obtain ⟨s, u⟩ := x
  obtain ⟨v1, vs1, rfl, ha1, hr⟩ := hargs
  have hr : vs1 = [] := hr
  subst hr
  obtain ⟨cs1, rfl, hc1⟩ := ha1
  have hc1 : cs1 = [.string s] := hc1
  subst hc1
  refine (call196 s hpre w hg).mono ?_
  rintro e w' ⟨rfl, hb⟩
  exact ⟨M, [.int .i64 (Tryz.intN s), .bool (intB s)], rfl, hb, fun _ h => h, fun b h => .inl h, _, _, rfl, ⟨_, rfl, rfl⟩, _, [], rfl, ⟨_, rfl, rfl⟩, rfl⟩
abbrev G147 : Gam := (196, cInteger) :: G146
theorem g147 : GamOk Tryz.prog G147 := .cons ok196 g146
theorem bs_data (a : ByteArray) : bs a.data.toList = a := rfl
theorem splitK_splitL (c : UInt8) : ∀ l : List UInt8, Lib.splitK [c] 0 (l.count c) l = splitL c l
  | [] => rfl
  | x :: r => by
    have ih := splitK_splitL c r
    by_cases h : x = c
    · subst h
      rw [splitL_cons, if_pos rfl, List.count_cons_self]
      have e : Lib.index (x :: r) [x] = 0 := by simp [Lib.index, List.isPrefixOf]
      rw [Lib.splitK, e, ← ih]
      rfl
    · rw [splitL_cons, if_neg h, List.count_cons_of_ne h, ← ih]
      have hp : [c].isPrefixOf (x :: r) = false := by
        have : ¬ c = x := fun e => h e.symm
        simp [List.isPrefixOf, this]
      cases hk : r.count c with
      | zero => rfl
      | succ k =>
        have hi : Lib.index (x :: r) [c] = if Lib.index r [c] == -1 then -1 else Lib.index r [c] + 1 := by rw [Lib.index, hp]; rfl
        by_cases h1 : Lib.index r [c] = -1
        · have e2 : Lib.index (x :: r) [c] = -1 := by rw [hi, h1]; rfl
          simp only [Lib.splitK, e2, h1]
          rfl
        · have hg := Lib.index_ge r [c]
          have e2 : Lib.index (x :: r) [c] = Lib.index r [c] + 1 := by rw [hi, if_neg (by simpa using h1)]
          obtain ⟨i, hi⟩ := Int.eq_ofNat_of_zero_le (by omega : 0 ≤ Lib.index r [c])
          rw [hi] at e2
          have n1 : ¬ ((i : Int) == -1) = true := by simp
          have n2 : ¬ (((i : Int) + 1) == -1) = true := by simp; omega
          simp only [Lib.splitK, e2, hi]
          rw [if_neg n1, if_neg n2]
          have t1 : ((i : Int) + 1).toNat = i + 1 := by omega
          have t2 : ((i : Int)).toNat = i := by omega
          simp only [t1, t2, Nat.add_zero, List.take_succ_cons, List.length_cons, List.length_nil]
          rfl
theorem splitS_splitF (s : ByteArray) (c : UInt8) : splitS s ⟨#[c]⟩ = (splitL c s.data.toList).map bs := by
  have h := Lib.splitB_data ⟨#[c]⟩ 0 (Lib.countB s ⟨#[c]⟩) s
  have hc : Lib.countB s ⟨#[c]⟩ = s.data.toList.count c := Lib.count_one c s.data.toList
  rw [hc] at h
  have h2 : (splitS s ⟨#[c]⟩).map (·.data.toList) = splitL c s.data.toList := by
    rw [← splitK_splitL]
    unfold splitS
    rw [hc]; exact h
  rw [← h2, List.map_map]
  exact (List.map_id' _).symm
theorem splitL_len (c : UInt8) : ∀ (l w : List UInt8), w ∈ splitL c l → w.length ≤ l.length
  | [], w, h => by
    have : w = [] := by simpa [splitL] using h
    rw [this]; exact Nat.le_refl _
  | x :: r, w, h => by
    rw [splitL_cons] at h
    split at h
    · rcases List.mem_cons.1 h with h | h
      · rw [h]; exact Nat.zero_le _
      · exact Nat.le_succ_of_le (splitL_len c r w h)
    · split at h
      · rename_i e; exact absurd e (splitL_ne c r)
      · rename_i hh t e
        rcases List.mem_cons.1 h with h | h
        · rw [h]
          exact Nat.succ_le_succ (splitL_len c r hh (by rw [e]; simp))
        · exact Nat.le_succ_of_le (splitL_len c r w (by rw [e]; simp [h]))
def wordsF (s : ByteArray) : List ByteArray := (splitL 32 s.data.toList).map bs
def headB : ByteArray := ⟨#[111, 114, 100, 101, 114]⟩
def parsedF (s : ByteArray) : (Int × Int) × Bool := match wordsF s with
  | [a, b, c] => if (a.toList == headB.toList) = true then ((Tryz.intN b, Tryz.intN c), intB b && intB c) else ((0, 0), false)
  | _ => ((0, 0), false)
def cParsed : Con := { args := [taS], ress := [Pr, tB], owns := [], pre := fun (s, _) => [s.size ≤ 1000000], spec := fun (s, _) => ((parsedF s).1, (parsedF s).2, ()) }
abbrev annUn : Ann := { X := Unit, σ := fun _ => ⟨0, [], []⟩, inv := fun _ => True, mu := fun _ => 0, un := 3 }
theorem words_size {s w : ByteArray} (h : w ∈ wordsF s) : w.size ≤ s.size := by
  obtain ⟨l, hl, rfl⟩ := List.mem_map.1 h
  have := splitL_len 32 _ _ hl
  show l.toArray.size ≤ s.data.size
  simpa using this
theorem parsedF_3 {s a b c : ByteArray} (h : wordsF s = [a, b, c]) : parsedF s = if (a.toList == headB.toList) = true then ((Tryz.intN b, Tryz.intN c), intB b && intB c) else ((0, 0), false) := by unfold parsedF; rw [h]
theorem parsedF_not {s : ByteArray} (h : (wordsF s).length ≠ 3) : parsedF s = ((0, 0), false) := by
  unfold parsedF
  split
  · rename_i e; rw [e] at h; exact absurd rfl h
  · rfl
theorem vc153 : ∀ (s : ByteArray), wpFG Tryz.prog G147 (ann0 annUn) (fun (x : FuncId) (x_1 : Nat) => none) (Sx.look [((176 : Nat), Tryz.f176), ((177 : Nat), Tryz.f177), ((197 : Nat), Tryz.f197), ((198 : Nat), Tryz.f198)]) Tryz.f153 cParsed (s, ()) = (ByteArray.size s ≤ (1000000 : Nat) → (ByteArray.size s ≤ (1000000 : Nat) ∧ (1 : Nat) ≤ (1 : Nat)) ∧ ((((↑(List.length (splitS s (ByteArray.mk (Array.mk [(32 : UInt8)])))) : Int) != (3 : Int)) = false → (0 : Int) ≤ (0 : Int) ∧ (0 : Int) < (↑(List.length (splitS s (ByteArray.mk (Array.mk [(32 : UInt8)])))) : Int)) ∧ (((↑(List.length (splitS s (ByteArray.mk (Array.mk [(32 : UInt8)])))) : Int) != (3 : Int)) = false → (0 : Int) ≤ (0 : Int) ∧ (0 : Int) < (↑(List.length (splitS s (ByteArray.mk (Array.mk [(32 : UInt8)])))) : Int))) ∧ ((bif (↑(List.length (splitS s (ByteArray.mk (Array.mk [(32 : UInt8)])))) : Int) != (3 : Int) then true else !ByteArray.toList (List.getD (splitS s (ByteArray.mk (Array.mk [(32 : UInt8)]))) (0 : Nat) (ByteArray.mk (Array.mk []))) == ByteArray.toList (ByteArray.mk (Array.mk [(111 : UInt8), (114 : UInt8), (100 : UInt8), (101 : UInt8), (114 : UInt8)]))) = true → true = true ∧ ((0 : Int), (0 : Int)) = (parsedF s).fst ∧ false = (parsedF s).snd) ∧ ((bif (↑(List.length (splitS s (ByteArray.mk (Array.mk [(32 : UInt8)])))) : Int) != (3 : Int) then true else !ByteArray.toList (List.getD (splitS s (ByteArray.mk (Array.mk [(32 : UInt8)]))) (0 : Nat) (ByteArray.mk (Array.mk []))) == ByteArray.toList (ByteArray.mk (Array.mk [(111 : UInt8), (114 : UInt8), (100 : UInt8), (101 : UInt8), (114 : UInt8)]))) = false → ((0 : Int) ≤ (1 : Int) ∧ (1 : Int) ≤ (↑(List.length (splitS s (ByteArray.mk (Array.mk [(32 : UInt8)])))) : Int) ∧ (↑(List.length (splitS s (ByteArray.mk (Array.mk [(32 : UInt8)])))) : Int) ≤ (↑(List.length (splitS s (ByteArray.mk (Array.mk [(32 : UInt8)])))) : Int)) ∧ (true = true → (((0 : Int) ≤ (0 : Int) ∧ (0 : Int) < (↑(List.length (List.drop (1 : Nat) (List.take (List.length (splitS s (ByteArray.mk (Array.mk [(32 : UInt8)])))) (splitS s (ByteArray.mk (Array.mk [(32 : UInt8)])))))) : Int)) ∧ ((0 : Int) ≤ (0 : Int) ∧ (0 : Int) < (↑(List.length (List.drop (1 : Nat) (List.take (List.length (splitS s (ByteArray.mk (Array.mk [(32 : UInt8)])))) (splitS s (ByteArray.mk (Array.mk [(32 : UInt8)])))))) : Int)) ∧ ByteArray.size (List.getD (List.drop (1 : Nat) (List.take (List.length (splitS s (ByteArray.mk (Array.mk [(32 : UInt8)])))) (splitS s (ByteArray.mk (Array.mk [(32 : UInt8)]))))) (0 : Nat) (ByteArray.mk (Array.mk []))) ≤ (1000000 : Nat)) ∧ ((0 : Int) ≤ (1 : Int) ∧ (1 : Int) ≤ (↑(List.length (List.drop (1 : Nat) (List.take (List.length (splitS s (ByteArray.mk (Array.mk [(32 : UInt8)])))) (splitS s (ByteArray.mk (Array.mk [(32 : UInt8)])))))) : Int) ∧ (↑(List.length (List.drop (1 : Nat) (List.take (List.length (splitS s (ByteArray.mk (Array.mk [(32 : UInt8)])))) (splitS s (ByteArray.mk (Array.mk [(32 : UInt8)])))))) : Int) ≤ (↑(List.length (List.drop (1 : Nat) (List.take (List.length (splitS s (ByteArray.mk (Array.mk [(32 : UInt8)])))) (splitS s (ByteArray.mk (Array.mk [(32 : UInt8)])))))) : Int)) ∧ ((-9223372036854775808 : Int) ≤ (0 : Int) + (1 : Int) ∧ (0 : Int) + (1 : Int) ≤ (9223372036854775807 : Int)) ∧ (true = true → (((0 : Int) ≤ (0 : Int) ∧ (0 : Int) < (↑(List.length (List.drop (1 : Nat) (List.take (List.length (List.drop (1 : Nat) (List.take (List.length (splitS s (ByteArray.mk (Array.mk [(32 : UInt8)])))) (splitS s (ByteArray.mk (Array.mk [(32 : UInt8)])))))) (List.drop (1 : Nat) (List.take (List.length (splitS s (ByteArray.mk (Array.mk [(32 : UInt8)])))) (splitS s (ByteArray.mk (Array.mk [(32 : UInt8)])))))))) : Int)) ∧ ((0 : Int) ≤ (0 : Int) ∧ (0 : Int) < (↑(List.length (List.drop (1 : Nat) (List.take (List.length (List.drop (1 : Nat) (List.take (List.length (splitS s (ByteArray.mk (Array.mk [(32 : UInt8)])))) (splitS s (ByteArray.mk (Array.mk [(32 : UInt8)])))))) (List.drop (1 : Nat) (List.take (List.length (splitS s (ByteArray.mk (Array.mk [(32 : UInt8)])))) (splitS s (ByteArray.mk (Array.mk [(32 : UInt8)])))))))) : Int)) ∧ ByteArray.size (List.getD (List.drop (1 : Nat) (List.take (List.length (List.drop (1 : Nat) (List.take (List.length (splitS s (ByteArray.mk (Array.mk [(32 : UInt8)])))) (splitS s (ByteArray.mk (Array.mk [(32 : UInt8)])))))) (List.drop (1 : Nat) (List.take (List.length (splitS s (ByteArray.mk (Array.mk [(32 : UInt8)])))) (splitS s (ByteArray.mk (Array.mk [(32 : UInt8)]))))))) (0 : Nat) (ByteArray.mk (Array.mk []))) ≤ (1000000 : Nat)) ∧ ((0 : Int) ≤ (1 : Int) ∧ (1 : Int) ≤ (↑(List.length (List.drop (1 : Nat) (List.take (List.length (List.drop (1 : Nat) (List.take (List.length (splitS s (ByteArray.mk (Array.mk [(32 : UInt8)])))) (splitS s (ByteArray.mk (Array.mk [(32 : UInt8)])))))) (List.drop (1 : Nat) (List.take (List.length (splitS s (ByteArray.mk (Array.mk [(32 : UInt8)])))) (splitS s (ByteArray.mk (Array.mk [(32 : UInt8)])))))))) : Int) ∧ (↑(List.length (List.drop (1 : Nat) (List.take (List.length (List.drop (1 : Nat) (List.take (List.length (splitS s (ByteArray.mk (Array.mk [(32 : UInt8)])))) (splitS s (ByteArray.mk (Array.mk [(32 : UInt8)])))))) (List.drop (1 : Nat) (List.take (List.length (splitS s (ByteArray.mk (Array.mk [(32 : UInt8)])))) (splitS s (ByteArray.mk (Array.mk [(32 : UInt8)])))))))) : Int) ≤ (↑(List.length (List.drop (1 : Nat) (List.take (List.length (List.drop (1 : Nat) (List.take (List.length (splitS s (ByteArray.mk (Array.mk [(32 : UInt8)])))) (splitS s (ByteArray.mk (Array.mk [(32 : UInt8)])))))) (List.drop (1 : Nat) (List.take (List.length (splitS s (ByteArray.mk (Array.mk [(32 : UInt8)])))) (splitS s (ByteArray.mk (Array.mk [(32 : UInt8)])))))))) : Int)) ∧ ((-9223372036854775808 : Int) ≤ (0 : Int) + (1 : Int) + (1 : Int) ∧ (0 : Int) + (1 : Int) + (1 : Int) ≤ (9223372036854775807 : Int)) ∧ (false = true → STUCK (9999 : Nat) (0 : Nat)) ∧ (false = false → true = true ∧ (Tryz.intN (List.getD (List.drop (1 : Nat) (List.take (List.length (splitS s (ByteArray.mk (Array.mk [(32 : UInt8)])))) (splitS s (ByteArray.mk (Array.mk [(32 : UInt8)]))))) (0 : Nat) (ByteArray.mk (Array.mk []))), Tryz.intN (List.getD (List.drop (1 : Nat) (List.take (List.length (List.drop (1 : Nat) (List.take (List.length (splitS s (ByteArray.mk (Array.mk [(32 : UInt8)])))) (splitS s (ByteArray.mk (Array.mk [(32 : UInt8)])))))) (List.drop (1 : Nat) (List.take (List.length (splitS s (ByteArray.mk (Array.mk [(32 : UInt8)])))) (splitS s (ByteArray.mk (Array.mk [(32 : UInt8)]))))))) (0 : Nat) (ByteArray.mk (Array.mk [])))) = (parsedF s).fst ∧ (!bif bif false then true else !intB (List.getD (List.drop (1 : Nat) (List.take (List.length (splitS s (ByteArray.mk (Array.mk [(32 : UInt8)])))) (splitS s (ByteArray.mk (Array.mk [(32 : UInt8)]))))) (0 : Nat) (ByteArray.mk (Array.mk []))) then true else !intB (List.getD (List.drop (1 : Nat) (List.take (List.length (List.drop (1 : Nat) (List.take (List.length (splitS s (ByteArray.mk (Array.mk [(32 : UInt8)])))) (splitS s (ByteArray.mk (Array.mk [(32 : UInt8)])))))) (List.drop (1 : Nat) (List.take (List.length (splitS s (ByteArray.mk (Array.mk [(32 : UInt8)])))) (splitS s (ByteArray.mk (Array.mk [(32 : UInt8)]))))))) (0 : Nat) (ByteArray.mk (Array.mk [])))) = (parsedF s).snd)) ∧ (true = false → true = true ∧ (Tryz.intN (List.getD (List.drop (1 : Nat) (List.take (List.length (splitS s (ByteArray.mk (Array.mk [(32 : UInt8)])))) (splitS s (ByteArray.mk (Array.mk [(32 : UInt8)]))))) (0 : Nat) (ByteArray.mk (Array.mk []))), (0 : Int)) = (parsedF s).fst ∧ (!bif false then true else !intB (List.getD (List.drop (1 : Nat) (List.take (List.length (splitS s (ByteArray.mk (Array.mk [(32 : UInt8)])))) (splitS s (ByteArray.mk (Array.mk [(32 : UInt8)]))))) (0 : Nat) (ByteArray.mk (Array.mk [])))) = (parsedF s).snd)) ∧ (true = false → true = true ∧ ((0 : Int), (0 : Int)) = (parsedF s).fst ∧ true = (parsedF s).snd))) := by
  intros
  kernel_rfl
theorem wp153 (s : ByteArray) : wpFG Tryz.prog G147 (ann0 annUn) (fun _ _ => none) (Sx.look ([(176, Tryz.f176), (177, Tryz.f177), (197, Tryz.f197), (198, Tryz.f198)] : List (Nat × Func))) Tryz.f153 cParsed (s, ()) := by
  refine (vc153 s).mpr ?_
  intro hs
  rw [show splitS s (⟨⟨[32]⟩⟩ : ByteArray) = wordsF s from splitS_splitF s 32]
  have hsz : ∀ w ∈ wordsF s, w.size ≤ 1000000 := fun w h => Nat.le_trans (words_size h) hs
  by_cases h3 : (wordsF s).length = 3
  · obtain ⟨a, b, c, hw⟩ : ∃ a b c, wordsF s = [a, b, c] := by
      match wordsF s, h3 with
      | [a, b, c], _ => exact ⟨a, b, c, rfl⟩
    have e := parsedF_3 hw
    rw [hw] at hsz ⊢
    have hb := hsz b (by simp)
    have hc := hsz c (by simp)
    rw [e]
    refine ⟨⟨hs, Nat.le_refl _⟩, ⟨fun _ => ⟨Int.le_refl _, by simp⟩, fun _ => ⟨Int.le_refl _, by simp⟩⟩, fun h => ?_, fun h => ?_⟩
    · replace h : (!(a.toList == headB.toList)) = true := h
      have h : (a.toList == headB.toList) = false := by simpa using h
      rw [h]; exact ⟨rfl, rfl, rfl⟩
    · replace h : (!(a.toList == headB.toList)) = false := h
      have h : (a.toList == headB.toList) = true := by simpa using h
      rw [h]
      refine ⟨by simp, fun _ => ⟨⟨by simp, by simp, hb⟩, by simp, by decide, fun _ => ⟨⟨by simp, by simp, hc⟩, by simp, by decide, fun h => (by cases h), fun _ => ⟨rfl, rfl, ?_⟩⟩, fun h => (by cases h)⟩, fun h => (by cases h)⟩
      show (!(bif (bif false then true else !intB b) then true else !intB c)) = (intB b && intB c)
      cases intB b <;> cases intB c <;> rfl
  · have e := parsedF_not h3
    have e3 : (((wordsF s).length : Int) != 3) = true := by
      rw [bne_iff_ne]; omega
    rw [e, e3]
    exact ⟨⟨hs, Nat.le_refl _⟩, ⟨fun h => (by cases h), fun h => (by cases h)⟩, fun _ => ⟨rfl, rfl, rfl⟩, fun h => (by cases h)⟩
theorem ok153 : Ok Tryz.prog 153 cParsed := ok_of_wpG mixed g147 (by kernel_rfl) (by kernel_rfl) (lib_ok (List.forall_mem_cons.2 ⟨by kernel_rfl, List.forall_mem_cons.2 ⟨by kernel_rfl, List.forall_mem_cons.2 ⟨by kernel_rfl, List.forall_mem_cons.2 ⟨by kernel_rfl, by simp⟩⟩⟩⟩)) (fun xx => ann0 annUn) (fun xx => fun _ _ => none) fun xx => wp153 xx.1
abbrev G148 : Gam := (153, cParsed) :: G147
theorem g148 : GamOk Tryz.prog G148 := .cons ok153 g147
end Go.Proofs.YtacaadhlobbemaaGreatDoor
namespace Go.Proofs.YtacaadhlobbemaaGreatDoor
open Go.Sx
def finishF (acc : List (Int × Int)) (n : Nat) : List (Int × Int) × Int × Int := if ordersS acc = 0 then (acc, 0, 0) else ([], n, ordersS acc)
def parseGo (f : List UInt8 → (Int × Int) × Bool) : List (List UInt8) → List (Int × Int) → List (Int × Int) × Int × Int
  | [], acc => finishF acc acc.length
  | [w], acc => if w = [] then finishF acc acc.length else ([], acc.length, 25)
  | w :: r, acc => if (f w).2 = true then parseGo f r (acc ++ [(f w).1]) else ([], acc.length, 25)
def parsedL (w : List UInt8) : (Int × Int) × Bool := parsedF (bs w)
def parseF (s : ByteArray) : List (Int × Int) × Int × Int := if 4096 < s.size then ([], 0, 26) else parseGo parsedL (splitL 10 s.data.toList) []
def cParse : Con := { args := [taS], ress := [(false, .list 172 sPt), tI, tI], owns := [], pre := fun _ => [], spec := fun (s, _) => ((parseF s).1, (parseF s).2.1, (parseF s).2.2, ()) }
abbrev annLns (s : ByteArray) : Ann := { X := ByteArray × List (Int × Int), σ := fun p => ⟨10, [(0, .one (.fv 7)), (1, .one (.ptr 5 0))], [(0, .box 85 [.val (.slice none 0 0)]), (1, .box 3 [.int .i64 0]), (2, .box 26 [.int .i64 0]), (3, .box 85 [.sl 9]), (5, .box 9 [.str p.1]), (7, .yld .ready), (8, .sus [(2, .one (.ptr 0 0)), (3, .one (.ptr 1 0)), (4, .one (.ptr 2 0)), (5, .one (.ptr 3 0))]), (9, .own 172 sPt p.2)]⟩, inv := fun p => s.size ≤ 4096 ∧ p.1.size ≤ s.size ∧ p.1.size + p.2.length ≤ s.size ∧ parseF s = parseGo parsedL (splitL 10 p.1.data.toList) p.2, mu := fun p => p.1.size }
theorem idx_hit : ∀ (l : List UInt8) (i : Nat), Lib.indexByte l 10 = (i : Int) → i < l.length ∧ splitL 10 l = l.take i :: splitL 10 (l.drop (i + 1)) ∧ l.take (i + 1) = l.take i ++ [10]
  | [], i, h => by
    have h : (-1 : Int) = (i : Int) := h
    omega
  | b :: r, i, h => by
    by_cases hb : b = 10
    · subst hb
      have h : (0 : Int) = (i : Int) := h
      have : i = 0 := by omega
      subst this
      exact ⟨by simp, rfl, rfl⟩
    · have hb' : (b == 10) = false := by simpa using hb
      rw [Lib.indexByte, hb'] at h
      by_cases h1 : Lib.indexByte r 10 = -1
      · rw [h1] at h
        have h : (-1 : Int) = (i : Int) := h
        omega
      · have hg := Lib.indexByte_ge r 10
        obtain ⟨j, hj⟩ := Int.eq_ofNat_of_zero_le (by omega : 0 ≤ Lib.indexByte r 10)
        have h1' : (Lib.indexByte r 10 == -1) = false := by simpa using h1
        rw [h1', hj] at h
        have h : ((j : Int) + 1) = (i : Int) := h
        have : i = j + 1 := by omega
        subst this
        obtain ⟨a1, a2, a3⟩ := idx_hit r j hj
        refine ⟨by simp; omega, ?_, ?_⟩
        · rw [splitL_cons, if_neg hb, a2]; rfl
        · rw [List.take_succ_cons, List.take_succ_cons, a3]; rfl
theorem idx_miss : ∀ (l : List UInt8), Lib.indexByte l 10 = -1 → splitL 10 l = [l] ∧ 10 ∉ l
  | [], _ => ⟨rfl, by simp⟩
  | b :: r, h => by
    by_cases hb : b = 10
    · subst hb
      have h : (0 : Int) = -1 := h
      omega
    · have hb' : (b == 10) = false := by simpa using hb
      rw [Lib.indexByte, hb'] at h
      by_cases h1 : Lib.indexByte r 10 = -1
      · obtain ⟨a1, a2⟩ := idx_miss r h1
        refine ⟨by rw [splitL_cons, if_neg hb, a1], ?_⟩
        intro hm
        rcases List.mem_cons.1 hm with hm | hm
        · exact hb hm.symm
        · exact a2 hm
      · have hg := Lib.indexByte_ge r 10
        have h1' : (Lib.indexByte r 10 == -1) = false := by simpa using h1
        rw [h1'] at h
        have h : Lib.indexByte r 10 + 1 = -1 := h
        omega
theorem parseGo_cons (f : List UInt8 → (Int × Int) × Bool) {w : List UInt8} {r : List (List UInt8)} (h : r ≠ []) (acc : List (Int × Int)) : parseGo f (w :: r) acc = if (f w).2 = true then parseGo f r (acc ++ [(f w).1]) else ([], acc.length, 25) := by
  cases r with
  | nil => exact absurd rfl h
  | cons a b => rfl
theorem bs_size (l : List UInt8) : (bs l).size = l.length := by show l.toArray.size = _; simp
theorem hasSuf_snoc (d : List UInt8) (x : UInt8) : hasSuf (bs (d ++ [x])) (⟨⟨[10]⟩⟩ : ByteArray) = (x == 10) := by
  unfold hasSuf
  have e1 : (⟨⟨[10]⟩⟩ : ByteArray).size = 1 := rfl
  have e2 : (bs (d ++ [x])).data.toList = d ++ [x] := rfl
  rw [Lib.extract_toList, Lib.toList_data, e1, e2, bs_size]
  simp
theorem ext_take (r : ByteArray) (i : Nat) : r.extract 0 i = bs (r.data.toList.take i) := by
  rw [← bs_data (r.extract 0 i), Lib.extract_data]; simp
theorem cutSuf_snoc (d : List UInt8) : cutSuf (bs (d ++ [10])) (⟨⟨[10]⟩⟩ : ByteArray) = bs d := by
  unfold cutSuf
  rw [hasSuf_snoc, show ((10 : UInt8) == 10) = true from rfl, if_pos rfl]
  have e1 : (⟨⟨[10]⟩⟩ : ByteArray).size = 1 := rfl
  rw [e1, bs_size]
  rw [ext_take]
  have e2 : (bs (d ++ [10])).data.toList = d ++ [10] := rfl
  rw [e2]
  simp
theorem ext_drop (r : ByteArray) (i : Nat) : r.extract i r.size = bs (r.data.toList.drop i) := by
  rw [← bs_data (r.extract i r.size), Lib.extract_data, List.take_of_length_le (by simp)]
theorem vc90 : ∀ (s : ByteArray), wpFG Tryz.prog G148 (na ()) (fun (f : FuncId) (id : Nat) => if f = (172 : FuncId) then some (annLns s) else none) (Sx.look [((151 : Nat), Tryz.f151), ((172 : Nat), Tryz.f172)]) Tryz.f90 cParse (s, ()) = ((decide ((4096 : Int) < (↑(ByteArray.size s) : Int)) = true → true = true ∧ [] = (parseF s).fst ∧ (0 : Int) = (parseF s).snd.fst ∧ (26 : Int) = (parseF s).snd.snd) ∧ (decide ((4096 : Int) < (↑(ByteArray.size s) : Int)) = false → ∃ (x : ByteArray × List (Int × Int)), (Value.slice none (0 : Nat) (0 : Nat) = Value.slice none (0 : Nat) (0 : Nat) ∧ (0 : Int) = (0 : Int) ∧ (0 : Int) = (0 : Int) ∧ s = x.fst ∧ List.length x.snd = (0 : Nat)) ∧ (ByteArray.size s ≤ (4096 : Nat) ∧ ByteArray.size x.fst ≤ ByteArray.size s ∧ ByteArray.size x.fst + List.length x.snd ≤ ByteArray.size s ∧ parseF s = parseGo parsedL (splitL (10 : UInt8) x.fst.data.toList) x.snd) ∧ ∀ (x : ByteArray × List (Int × Int)), ByteArray.size s ≤ (4096 : Nat) ∧ ByteArray.size x.fst ≤ ByteArray.size s ∧ ByteArray.size x.fst + List.length x.snd ≤ ByteArray.size s ∧ parseF s = parseGo parsedL (splitL (10 : UInt8) x.fst.data.toList) x.snd → (decide ((0 : Int) < (↑(ByteArray.size x.fst) : Int)) = true → (decide ((0 : Int) ≤ indexF x.fst (10 : Int)) = true → (((-9223372036854775808 : Int) ≤ indexF x.fst (10 : Int) + (1 : Int) ∧ indexF x.fst (10 : Int) + (1 : Int) ≤ (9223372036854775807 : Int)) ∧ ((0 : Int) ≤ (0 : Int) ∧ (0 : Int) ≤ indexF x.fst (10 : Int) + (1 : Int) ∧ indexF x.fst (10 : Int) + (1 : Int) ≤ (↑(ByteArray.size x.fst) : Int)) ∧ ((-9223372036854775808 : Int) ≤ indexF x.fst (10 : Int) + (1 : Int) ∧ indexF x.fst (10 : Int) + (1 : Int) ≤ (9223372036854775807 : Int)) ∧ (0 : Int) ≤ indexF x.fst (10 : Int) + (1 : Int) ∧ indexF x.fst (10 : Int) + (1 : Int) ≤ (↑(ByteArray.size x.fst) : Int) ∧ (↑(ByteArray.size x.fst) : Int) ≤ (↑(ByteArray.size x.fst) : Int)) ∧ (ByteArray.size (ByteArray.extract x.fst (0 : Nat) (Int.toNat (indexF x.fst (10 : Int) + (1 : Int)))) ≤ (1000000 : Nat) ∧ (1 : Nat) ≤ (1000000 : Nat)) ∧ ByteArray.size (cutSuf (ByteArray.extract x.fst (0 : Nat) (Int.toNat (indexF x.fst (10 : Int) + (1 : Int)))) (ByteArray.mk (Array.mk [(10 : UInt8)]))) ≤ (1000000 : Nat) ∧ ((bif !hasSuf (ByteArray.extract x.fst (0 : Nat) (Int.toNat (indexF x.fst (10 : Int) + (1 : Int)))) (ByteArray.mk (Array.mk [(10 : UInt8)])) then true else !(parsedF (cutSuf (ByteArray.extract x.fst (0 : Nat) (Int.toNat (indexF x.fst (10 : Int) + (1 : Int)))) (ByteArray.mk (Array.mk [(10 : UInt8)])))).snd) = true → (true = true → true = true ∧ [] = (parseF s).fst ∧ (↑(List.length x.snd) : Int) = (parseF s).snd.fst ∧ (25 : Int) = (parseF s).snd.snd) ∧ (true = false → ∃ (y : ByteArray × List (Int × Int)), False ∧ (ByteArray.size s ≤ (4096 : Nat) ∧ ByteArray.size y.fst ≤ ByteArray.size s ∧ ByteArray.size y.fst + List.length y.snd ≤ ByteArray.size s ∧ parseF s = parseGo parsedL (splitL (10 : UInt8) y.fst.data.toList) y.snd) ∧ List.length y.1.data.toList < List.length x.1.data.toList)) ∧ ((bif !hasSuf (ByteArray.extract x.fst (0 : Nat) (Int.toNat (indexF x.fst (10 : Int) + (1 : Int)))) (ByteArray.mk (Array.mk [(10 : UInt8)])) then true else !(parsedF (cutSuf (ByteArray.extract x.fst (0 : Nat) (Int.toNat (indexF x.fst (10 : Int) + (1 : Int)))) (ByteArray.mk (Array.mk [(10 : UInt8)])))).snd) = false → (List.length x.2 + (1 : Nat)) * (16 : Nat) ≤ (140737488355328 : Nat) ∧ (false = true → ((ordersS (x.2 ++ [((parsedF (cutSuf (ByteArray.extract x.fst (0 : Nat) (Int.toNat (indexF x.fst (10 : Int) + (1 : Int)))) (ByteArray.mk (Array.mk [(10 : UInt8)])))).fst.fst, (parsedF (cutSuf (ByteArray.extract x.fst (0 : Nat) (Int.toNat (indexF x.fst (10 : Int) + (1 : Int)))) (ByteArray.mk (Array.mk [(10 : UInt8)])))).fst.snd)]) != (0 : Int)) = true → true = true ∧ [] = (parseF s).fst ∧ (↑(List.length (x.2 ++ [((parsedF (cutSuf (ByteArray.extract x.fst (0 : Nat) (Int.toNat (indexF x.fst (10 : Int) + (1 : Int)))) (ByteArray.mk (Array.mk [(10 : UInt8)])))).fst.fst, (parsedF (cutSuf (ByteArray.extract x.fst (0 : Nat) (Int.toNat (indexF x.fst (10 : Int) + (1 : Int)))) (ByteArray.mk (Array.mk [(10 : UInt8)])))).fst.snd)])) : Int) = (parseF s).snd.fst ∧ ordersS (x.2 ++ [((parsedF (cutSuf (ByteArray.extract x.fst (0 : Nat) (Int.toNat (indexF x.fst (10 : Int) + (1 : Int)))) (ByteArray.mk (Array.mk [(10 : UInt8)])))).fst.fst, (parsedF (cutSuf (ByteArray.extract x.fst (0 : Nat) (Int.toNat (indexF x.fst (10 : Int) + (1 : Int)))) (ByteArray.mk (Array.mk [(10 : UInt8)])))).fst.snd)]) = (parseF s).snd.snd) ∧ ((ordersS (x.2 ++ [((parsedF (cutSuf (ByteArray.extract x.fst (0 : Nat) (Int.toNat (indexF x.fst (10 : Int) + (1 : Int)))) (ByteArray.mk (Array.mk [(10 : UInt8)])))).fst.fst, (parsedF (cutSuf (ByteArray.extract x.fst (0 : Nat) (Int.toNat (indexF x.fst (10 : Int) + (1 : Int)))) (ByteArray.mk (Array.mk [(10 : UInt8)])))).fst.snd)]) != (0 : Int)) = false → true = true ∧ x.2 ++ [((parsedF (cutSuf (ByteArray.extract x.fst (0 : Nat) (Int.toNat (indexF x.fst (10 : Int) + (1 : Int)))) (ByteArray.mk (Array.mk [(10 : UInt8)])))).fst.fst, (parsedF (cutSuf (ByteArray.extract x.fst (0 : Nat) (Int.toNat (indexF x.fst (10 : Int) + (1 : Int)))) (ByteArray.mk (Array.mk [(10 : UInt8)])))).fst.snd)] = (parseF s).fst ∧ (0 : Int) = (parseF s).snd.fst ∧ (0 : Int) = (parseF s).snd.snd)) ∧ (false = false → ∃ (y : ByteArray × List (Int × Int)), (Value.slice none (0 : Nat) (0 : Nat) = Value.slice none (0 : Nat) (0 : Nat) ∧ (0 : Int) = (0 : Int) ∧ (0 : Int) = (0 : Int) ∧ ByteArray.extract x.fst (Int.toNat (indexF x.fst (10 : Int) + (1 : Int))) (ByteArray.size x.fst) = y.fst ∧ x.2 ++ [((parsedF (cutSuf (ByteArray.extract x.fst (0 : Nat) (Int.toNat (indexF x.fst (10 : Int) + (1 : Int)))) (ByteArray.mk (Array.mk [(10 : UInt8)])))).fst.fst, (parsedF (cutSuf (ByteArray.extract x.fst (0 : Nat) (Int.toNat (indexF x.fst (10 : Int) + (1 : Int)))) (ByteArray.mk (Array.mk [(10 : UInt8)])))).fst.snd)] = y.snd) ∧ (ByteArray.size s ≤ (4096 : Nat) ∧ ByteArray.size y.fst ≤ ByteArray.size s ∧ ByteArray.size y.fst + List.length y.snd ≤ ByteArray.size s ∧ parseF s = parseGo parsedL (splitL (10 : UInt8) y.fst.data.toList) y.snd) ∧ List.length y.1.data.toList < List.length x.1.data.toList))) ∧ (decide ((0 : Int) ≤ indexF x.fst (10 : Int)) = false → (ByteArray.size x.fst ≤ (1000000 : Nat) ∧ (1 : Nat) ≤ (1000000 : Nat)) ∧ ByteArray.size (cutSuf x.fst (ByteArray.mk (Array.mk [(10 : UInt8)]))) ≤ (1000000 : Nat) ∧ ((bif !hasSuf x.fst (ByteArray.mk (Array.mk [(10 : UInt8)])) then true else !(parsedF (cutSuf x.fst (ByteArray.mk (Array.mk [(10 : UInt8)])))).snd) = true → (true = true → true = true ∧ [] = (parseF s).fst ∧ (↑(List.length x.snd) : Int) = (parseF s).snd.fst ∧ (25 : Int) = (parseF s).snd.snd) ∧ (true = false → ∃ (y : ByteArray × List (Int × Int)), False ∧ (ByteArray.size s ≤ (4096 : Nat) ∧ ByteArray.size y.fst ≤ ByteArray.size s ∧ ByteArray.size y.fst + List.length y.snd ≤ ByteArray.size s ∧ parseF s = parseGo parsedL (splitL (10 : UInt8) y.fst.data.toList) y.snd) ∧ List.length y.1.data.toList < List.length x.1.data.toList)) ∧ ((bif !hasSuf x.fst (ByteArray.mk (Array.mk [(10 : UInt8)])) then true else !(parsedF (cutSuf x.fst (ByteArray.mk (Array.mk [(10 : UInt8)])))).snd) = false → (List.length x.2 + (1 : Nat)) * (16 : Nat) ≤ (140737488355328 : Nat) ∧ (false = true → ((ordersS (x.2 ++ [((parsedF (cutSuf x.fst (ByteArray.mk (Array.mk [(10 : UInt8)])))).fst.fst, (parsedF (cutSuf x.fst (ByteArray.mk (Array.mk [(10 : UInt8)])))).fst.snd)]) != (0 : Int)) = true → true = true ∧ [] = (parseF s).fst ∧ (↑(List.length (x.2 ++ [((parsedF (cutSuf x.fst (ByteArray.mk (Array.mk [(10 : UInt8)])))).fst.fst, (parsedF (cutSuf x.fst (ByteArray.mk (Array.mk [(10 : UInt8)])))).fst.snd)])) : Int) = (parseF s).snd.fst ∧ ordersS (x.2 ++ [((parsedF (cutSuf x.fst (ByteArray.mk (Array.mk [(10 : UInt8)])))).fst.fst, (parsedF (cutSuf x.fst (ByteArray.mk (Array.mk [(10 : UInt8)])))).fst.snd)]) = (parseF s).snd.snd) ∧ ((ordersS (x.2 ++ [((parsedF (cutSuf x.fst (ByteArray.mk (Array.mk [(10 : UInt8)])))).fst.fst, (parsedF (cutSuf x.fst (ByteArray.mk (Array.mk [(10 : UInt8)])))).fst.snd)]) != (0 : Int)) = false → true = true ∧ x.2 ++ [((parsedF (cutSuf x.fst (ByteArray.mk (Array.mk [(10 : UInt8)])))).fst.fst, (parsedF (cutSuf x.fst (ByteArray.mk (Array.mk [(10 : UInt8)])))).fst.snd)] = (parseF s).fst ∧ (0 : Int) = (parseF s).snd.fst ∧ (0 : Int) = (parseF s).snd.snd)) ∧ (false = false → ∃ (y : ByteArray × List (Int × Int)), (Value.slice none (0 : Nat) (0 : Nat) = Value.slice none (0 : Nat) (0 : Nat) ∧ (0 : Int) = (0 : Int) ∧ (0 : Int) = (0 : Int) ∧ ByteArray.mk (Array.mk []) = y.fst ∧ x.2 ++ [((parsedF (cutSuf x.fst (ByteArray.mk (Array.mk [(10 : UInt8)])))).fst.fst, (parsedF (cutSuf x.fst (ByteArray.mk (Array.mk [(10 : UInt8)])))).fst.snd)] = y.snd) ∧ (ByteArray.size s ≤ (4096 : Nat) ∧ ByteArray.size y.fst ≤ ByteArray.size s ∧ ByteArray.size y.fst + List.length y.snd ≤ ByteArray.size s ∧ parseF s = parseGo parsedL (splitL (10 : UInt8) y.fst.data.toList) y.snd) ∧ List.length y.1.data.toList < List.length x.1.data.toList)))) ∧ (decide ((0 : Int) < (↑(ByteArray.size x.fst) : Int)) = false → ((ordersS x.2 != (0 : Int)) = true → true = true ∧ [] = (parseF s).fst ∧ (↑(List.length x.snd) : Int) = (parseF s).snd.fst ∧ ordersS x.2 = (parseF s).snd.snd) ∧ ((ordersS x.2 != (0 : Int)) = false → true = true ∧ x.2 = (parseF s).fst ∧ (0 : Int) = (parseF s).snd.fst ∧ (0 : Int) = (parseF s).snd.snd)))) := by
  intros
  kernel_rfl
theorem wp90 (s : ByteArray) : wpFG Tryz.prog G148 (na ()) (fun f id => if f = 172 then some (annLns s) else none) (Sx.look ([(151, Tryz.f151), (172, Tryz.f172)] : List (Nat × Func))) Tryz.f90 cParse (s, ()) := by
  refine (vc90 s).mpr ?_
  refine ⟨fun h => ?_, fun h => ?_⟩
  · have h : 4096 < s.size := by have := of_decide_eq_true h
                                 omega
    have e : parseF s = ([], 0, 26) := by unfold parseF; rw [if_pos h]
    rw [e]; exact ⟨rfl, rfl, rfl, rfl⟩
  have hs : ¬ 4096 < s.size := by have := of_decide_eq_false h
                                  omega
  have e : parseF s = parseGo parsedL (splitL 10 s.data.toList) [] := by unfold parseF; rw [if_neg hs]
  refine ⟨(s, []), ⟨rfl, rfl, rfl, rfl, rfl⟩, ⟨by omega, Nat.le_refl _, by simp, e⟩, ?_⟩
  rintro ⟨r, acc⟩ ⟨_, h1, h2, h3⟩
  dsimp only at h1 h2 h3 ⊢
  have hl : r.data.toList.length = r.size := by simp
  refine ⟨fun hr => ?_, fun hr => ?_⟩
  · have hr : 0 < r.size := by simpa using hr
    refine ⟨fun hi => ?_, fun hi => ?_⟩
    · have hi : 0 ≤ indexF r 10 := of_decide_eq_true hi
      obtain ⟨i, hi⟩ := Int.eq_ofNat_of_zero_le hi
      obtain ⟨a1, a2, a3⟩ := idx_hit r.data.toList i hi
      have ei : (indexF r 10 + 1).toNat = i + 1 := by rw [hi]; omega
      have e1 : r.extract 0 (i + 1) = bs (r.data.toList.take i ++ [10]) := by rw [ext_take, a3]
      have e2 := hasSuf_snoc (r.data.toList.take i) 10
      have e3 := cutSuf_snoc (r.data.toList.take i)
      have e4 := ext_drop r (i + 1)
      have sz : (bs (r.data.toList.take i)).size ≤ i := by rw [bs_size, List.length_take]; omega
      have sz1 : (bs (r.data.toList.take i ++ [10])).size ≤ i + 1 := by rw [bs_size, List.length_append, List.length_take]; simp; omega
      have sz2 : (bs (r.data.toList.drop (i + 1))).size = r.size - (i + 1) := by rw [bs_size, List.length_drop, hl]
      rw [a2, parseGo_cons _ (splitL_ne _ _)] at h3
      rw [ei, e1, e2, e3, e4, hi]
      refine ⟨by omega, ⟨by omega, by decide⟩, by omega, fun hb => ⟨fun _ => ?_, fun f => (by cases f)⟩, fun hb => ⟨by omega, fun f => (by cases f), fun _ => ⟨(bs (r.data.toList.drop (i + 1)), acc ++ [(parsedL (r.data.toList.take i)).1]), ⟨rfl, rfl, rfl, rfl, rfl⟩, ⟨by omega, by dsimp only; omega, by dsimp only; rw [List.length_append]; simp; omega, ?_⟩, ?_⟩⟩⟩
      · have hb : (!(parsedL (r.data.toList.take i)).2) = true := hb
        have hb : (parsedL (r.data.toList.take i)).2 = false := by simpa using hb
        rw [hb] at h3
        rw [h3]; exact ⟨rfl, rfl, rfl, rfl⟩
      · have hb : (!(parsedL (r.data.toList.take i)).2) = false := hb
        have hb : (parsedL (r.data.toList.take i)).2 = true := by simpa using hb
        rw [hb] at h3
        exact h3
      · show (r.data.toList.drop (i + 1)).length < r.data.toList.length
        rw [List.length_drop]; omega
    · have hi : ¬ 0 ≤ indexF r 10 := of_decide_eq_false hi
      have hg := Lib.indexByte_ge r.data.toList 10
      have hm : Lib.indexByte r.data.toList 10 = -1 := by
        have : ¬ 0 ≤ Lib.indexByte r.data.toList 10 := hi
        omega
      obtain ⟨a1, a2⟩ := idx_miss _ hm
      obtain ⟨d, x, hd⟩ : ∃ d x, r.data.toList = d ++ [x] := by
        rcases List.eq_nil_or_concat r.data.toList with h | ⟨d, x, h⟩
        · rw [h] at hl; simp at hl; omega
        · exact ⟨d, x, by simpa using h⟩
      have hx : ¬ x = 10 := by
        rintro rfl
        exact a2 (by rw [hd]; simp)
      have er : r = bs (d ++ [x]) := by rw [← hd]; rfl
      have e2 : hasSuf r (⟨⟨[10]⟩⟩ : ByteArray) = false := by rw [er, hasSuf_snoc]; simpa using hx
      have e3 : cutSuf r (⟨⟨[10]⟩⟩ : ByteArray) = r := by unfold cutSuf; rw [e2]; rfl
      rw [e2, e3]
      have h4 : parseGo parsedL [r.data.toList] acc = (([], (acc.length : Int), 25) : List (Int × Int) × Int × Int) := by
        have hne : ¬ r.data.toList = [] := by rw [hd]; simp
        simp only [parseGo, if_neg hne]
      rw [a1, h4] at h3
      refine ⟨⟨by omega, by decide⟩, by omega, fun _ => ⟨fun _ => ?_, fun f => (by cases f)⟩, fun f => (by cases f)⟩
      rw [h3]; exact ⟨rfl, rfl, rfl, rfl⟩
  · have hr : r.size = 0 := by have : ¬ ((0 : Int) < r.size) := by simpa using hr
                               omega
    have hn : r.data.toList = [] := List.eq_nil_of_length_eq_zero (by omega)
    rw [hn] at h3
    have h4 : parseGo parsedL (splitL 10 []) acc = finishF acc acc.length := rfl
    rw [h4] at h3
    unfold finishF at h3
    refine ⟨fun h => ?_, fun h => ?_⟩
    · have h : ¬ ordersS acc = 0 := by simpa using h
      rw [if_neg h] at h3
      rw [h3]; exact ⟨rfl, rfl, rfl, rfl⟩
    · have h : ordersS acc = 0 := by simpa using h
      rw [if_pos h] at h3
      rw [h3]; exact ⟨rfl, rfl, rfl, rfl⟩
theorem ok90 : Ok Tryz.prog 90 cParse := ok_of_wpG mixed g148 (by kernel_rfl) (by kernel_rfl) (lib_ok (List.forall_mem_cons.2 ⟨by kernel_rfl, List.forall_mem_cons.2 ⟨by kernel_rfl, by simp⟩⟩)) (fun xx => na ()) (fun xx => fun f id => if f = 172 then some (annLns xx.1) else none) fun xx => wp90 xx.1
abbrev G149 : Gam := (90, cParse) :: G148
theorem g149 : GamOk Tryz.prog G149 := .cons ok90 g148
def lineR (x : Int × Int) : List UInt8 := headB.data.toList ++ 32 :: (Lib.itoa x.1 ++ 32 :: (Lib.itoa x.2 ++ [10]))
def printR (l : List (Int × Int)) : List UInt8 := l.flatMap lineR
def small (x : Int × Int) : Prop := -1000000000 < x.1 ∧ x.1 < 1000000000 ∧ -1000000000 < x.2 ∧ x.2 < 1000000000
def cPrintR : Con := { args := [aL 142], ress := [tS], owns := [], pre := fun (l, _) => [l.length ≤ 1000000, ∀ x ∈ l, small x], spec := fun (l, _) => (bs (printR l), ()) }
abbrev annPrintR (l : List (Int × Int)) : Ann := { X := Nat × ByteArray, σ := fun p => ⟨1, [(0, .one (.sl 0)), (3, .one (.str p.2)), (4, .one (.int .i64 p.1))], [(0, .imm 142 sPt l)]⟩, inv := fun p => p.1 ≤ l.length ∧ p.2 = bs (printR (l.take p.1)), mu := fun p => l.length - p.1 }
theorem szl (X : List UInt8) : (⟨⟨X⟩⟩ : ByteArray).size = X.length := rfl
theorem tsl (n : Int) : (textS n).data.toList.length = (textS n).size := by simp
theorem lineR_len {x : Int × Int} (h : small x) : (lineR x).length ≤ 60 := by
  obtain ⟨h1, h2, h3, h4⟩ := h
  have a1 := Lib.itoa_length_le x.1 (by omega) (by omega)
  have a2 := Lib.itoa_length_le x.2 (by omega) (by omega)
  have e : headB.data.toList.length = 5 := rfl
  unfold lineR
  simp only [List.length_append, List.length_cons, List.length_nil, e]
  omega
theorem printR_len : ∀ {l : List (Int × Int)}, (∀ x ∈ l, small x) → (printR l).length ≤ 60 * l.length
  | [], _ => by simp [printR]
  | x :: l, h => by
    have a1 := lineR_len (h x (by simp))
    have a2 := printR_len (l := l) fun y hy => h y (by simp [hy])
    have e : printR (x :: l) = lineR x ++ printR l := rfl
    rw [e, List.length_append, List.length_cons]
    omega
theorem vc91 : ∀ (l : List (Int × Int)), wpF Tryz.prog G149 (ann0 (annPrintR l)) Tryz.f91 cPrintR (l, ()) = (List.length l ≤ (1000000 : Nat) → (∀ (x : Int × Int), x ∈ l → small x) → ∃ (x : Nat × ByteArray), (ByteArray.mk (Array.mk []) = x.snd ∧ (0 : Int) = (↑x.fst : Int) ∧ l = l) ∧ (x.fst ≤ List.length l ∧ x.snd = bs (printR (List.take x.fst l))) ∧ ∀ (x : Nat × ByteArray), x.fst ≤ List.length l ∧ x.snd = bs (printR (List.take x.fst l)) → (decide ((↑x.fst : Int) < (↑(List.length l) : Int)) = true → ((↑(ByteArray.size x.snd + (6 : Nat)) : Int) ≤ (9223372036854775807 : Int) ∧ ((0 : Int) ≤ (↑x.fst : Int) ∧ (↑x.fst : Int) < (↑(List.length l) : Int)) ∧ ((0 : Int) ≤ (↑x.fst : Int) ∧ (↑x.fst : Int) < (↑(List.length l) : Int)) ∧ (9 : Nat) ≤ (18 : Nat) ∧ -(10 : Int) ^ (9 : Nat) < (List.getD l x.fst ((0 : Int), (0 : Int))).fst ∧ (List.getD l x.fst ((0 : Int), (0 : Int))).fst < (10 : Int) ^ (10 : Nat) ∧ (↑(ByteArray.size (ByteArray.mk (Array.mk (x.snd.data.toList ++ [(111 : UInt8), (114 : UInt8), (100 : UInt8), (101 : UInt8), (114 : UInt8), (32 : UInt8)]))) + ByteArray.size (textS (List.getD l x.fst ((0 : Int), (0 : Int))).fst)) : Int) ≤ (9223372036854775807 : Int) ∧ (↑(ByteArray.size (ByteArray.mk (Array.mk ((Array.mk (x.snd.data.toList ++ [(111 : UInt8), (114 : UInt8), (100 : UInt8), (101 : UInt8), (114 : UInt8), (32 : UInt8)])).toList ++ (textS (List.getD l x.fst ((0 : Int), (0 : Int))).fst).data.toList))) + (1 : Nat)) : Int) ≤ (9223372036854775807 : Int) ∧ ((0 : Int) ≤ (↑x.fst : Int) ∧ (↑x.fst : Int) < (↑(List.length l) : Int)) ∧ ((0 : Int) ≤ (↑x.fst : Int) ∧ (↑x.fst : Int) < (↑(List.length l) : Int)) ∧ (9 : Nat) ≤ (18 : Nat) ∧ -(10 : Int) ^ (9 : Nat) < (List.getD l x.fst ((0 : Int), (0 : Int))).snd ∧ (List.getD l x.fst ((0 : Int), (0 : Int))).snd < (10 : Int) ^ (10 : Nat) ∧ (↑(ByteArray.size (ByteArray.mk (Array.mk ((Array.mk ((Array.mk (x.snd.data.toList ++ [(111 : UInt8), (114 : UInt8), (100 : UInt8), (101 : UInt8), (114 : UInt8), (32 : UInt8)])).toList ++ (textS (List.getD l x.fst ((0 : Int), (0 : Int))).fst).data.toList)).toList ++ [(32 : UInt8)]))) + ByteArray.size (textS (List.getD l x.fst ((0 : Int), (0 : Int))).snd)) : Int) ≤ (9223372036854775807 : Int) ∧ (↑(ByteArray.size (ByteArray.mk (Array.mk ((Array.mk ((Array.mk ((Array.mk (x.snd.data.toList ++ [(111 : UInt8), (114 : UInt8), (100 : UInt8), (101 : UInt8), (114 : UInt8), (32 : UInt8)])).toList ++ (textS (List.getD l x.fst ((0 : Int), (0 : Int))).fst).data.toList)).toList ++ [(32 : UInt8)])).toList ++ (textS (List.getD l x.fst ((0 : Int), (0 : Int))).snd).data.toList))) + (1 : Nat)) : Int) ≤ (9223372036854775807 : Int)) ∧ ((-9223372036854775808 : Int) ≤ (↑x.fst : Int) + (1 : Int) ∧ (↑x.fst : Int) + (1 : Int) ≤ (9223372036854775807 : Int)) ∧ ∃ (y : Nat × ByteArray), (ByteArray.mk (Array.mk ((Array.mk ((Array.mk ((Array.mk ((Array.mk (x.snd.data.toList ++ [(111 : UInt8), (114 : UInt8), (100 : UInt8), (101 : UInt8), (114 : UInt8), (32 : UInt8)])).toList ++ (textS (List.getD l x.fst ((0 : Int), (0 : Int))).fst).data.toList)).toList ++ [(32 : UInt8)])).toList ++ (textS (List.getD l x.fst ((0 : Int), (0 : Int))).snd).data.toList)).toList ++ [(10 : UInt8)])) = y.snd ∧ (↑x.fst : Int) + (1 : Int) = (↑y.fst : Int) ∧ l = l) ∧ (y.fst ≤ List.length l ∧ y.snd = bs (printR (List.take y.fst l))) ∧ List.length l - y.fst < List.length l - x.fst) ∧ (decide ((↑x.fst : Int) < (↑(List.length l) : Int)) = false → x.snd = bs (printR l))) := by
  intros
  kernel_rfl
theorem wp91 (l : List (Int × Int)) : wpF Tryz.prog G149 (ann0 (annPrintR l)) Tryz.f91 cPrintR (l, ()) := by
  refine (vc91 l).mpr ?_
  intro hl hsm
  refine ⟨(0, bs []), ⟨rfl, rfl, rfl⟩, ⟨Nat.zero_le _, rfl⟩, ?_⟩
  rintro ⟨k, b⟩ ⟨h1, h2⟩
  dsimp only at h1 h2 ⊢
  subst h2
  refine ⟨fun h => ?_, fun h => ?_⟩
  · have h : k < l.length := by simpa using h
    have htk : l.take (k + 1) = l.take k ++ [l.getD k (0, 0)] := by
      rw [List.take_succ_eq_append_getElem h, List.getD_eq_getElem?_getD, List.getElem?_eq_getElem h]; rfl
    have hmem : l.getD k (0, 0) ∈ l := by
      rw [List.getD_eq_getElem?_getD, List.getElem?_eq_getElem h]; exact List.getElem_mem h
    generalize l.getD k (0, 0) = x at *
    obtain ⟨s1, s2, s3, s4⟩ := hsm x hmem
    have z1 := ts_size x.1 (by omega) (by omega)
    have z2 := ts_size x.2 (by omega) (by omega)
    have hp := printR_len (l := l.take k) fun y hy => hsm y (List.mem_of_mem_take hy)
    have hk : (l.take k).length ≤ 1000000 := by rw [List.length_take]; omega
    have hb : (bs (printR (l.take k))).size = (printR (l.take k)).length := bs_size _
    have hb2 : (bs (printR (l.take k))).data.toList.length = (printR (l.take k)).length := rfl
    simp only [szl, List.length_append, List.length_cons, List.length_nil, tsl, hb, hb2]
    refine ⟨by omega, by omega, (k + 1, bs (printR (l.take (k + 1)))), ⟨?_, by simp, trivial⟩, ⟨by dsimp only; omega, rfl⟩, by dsimp only; omega⟩
    have e : printR (l.take (k + 1)) = printR (l.take k) ++ lineR x := by rw [htk]; simp [printR]
    dsimp only
    rw [e]
    show bs _ = bs _
    congr 1
    have e1 : (textS x.1).data.toList = Lib.itoa x.1 := rfl
    have e2 : (textS x.2).data.toList = Lib.itoa x.2 := rfl
    have e3 : (bs (printR (l.take k))).data.toList = printR (l.take k) := rfl
    rw [e1, e2, e3]
    simp [lineR, headB]
  · have hk : k = l.length := by have : ¬ ((k : Int) < l.length) := by simpa using h
                                 omega
    rw [hk, List.take_length]
theorem ok91 : Ok Tryz.prog 91 cPrintR := ok_of_wp mixed g149 (by kernel_rfl) (by kernel_rfl) (fun xx => ann0 (annPrintR xx.1)) fun xx => wp91 xx.1
abbrev G150 : Gam := (91, cPrintR) :: G149
theorem g150 : GamOk Tryz.prog G150 := .cons ok91 g149
def parsedR (w : List UInt8) : (Int × Int) × Bool := match splitL 32 w with
  | [a, b, c] => if ((bs a).toList == headB.toList) = true then (((signedF (bs b)).1, (signedF (bs c)).1), (signedF (bs b)).2 && (signedF (bs c)).2) else ((0, 0), false)
  | _ => ((0, 0), false)
def parseR (s : ByteArray) : List (Int × Int) × Int × Int := if 4096 < s.size then ([], 0, 26) else parseGo parsedR (splitL 10 s.data.toList) []
def cParseR : Con := { args := [taS], ress := [(false, .list 142 sPt), tI, tI], owns := [], pre := fun _ => [], spec := fun (s, _) => ((parseR s).1, (parseR s).2.1, (parseR s).2.2, ()) }
abbrev annParseR (s : ByteArray) : Ann := { X := Nat × List (Int × Int), σ := fun p => ⟨2, [(0, .one (.str s)), (5, .one (.sl 1)), (6, .one (.sl 0)), (7, .one (.int .i64 ((splitF s 10).length - 1))), (8, .one (.int .i64 p.1))], [(0, .imm 9 .str (splitF s 10)), (1, .own 142 sPt p.2)]⟩, inv := fun p => s.size ≤ 4096 ∧ p.2.length = p.1 ∧ p.1 < (splitF s 10).length ∧ parseR s = parseGo parsedR ((splitL 10 s.data.toList).drop p.1) p.2, mu := fun p => (splitF s 10).length - p.1 }
theorem splitF_10 (s : ByteArray) : splitF s 10 = (splitL 10 s.data.toList).map bs := rfl
theorem splitF_32 (w : List UInt8) : splitF (bs w) 32 = (splitL 32 w).map bs := rfl
theorem splitL_cnt (c : UInt8) : ∀ l : List UInt8, (splitL c l).length ≤ l.length + 1
  | [] => Nat.le_refl _
  | x :: r => by
    have ih := splitL_cnt c r
    rw [splitL_cons]
    split
    · simp; omega
    · split
      · simp
      · rename_i e; rw [e] at ih; simp at ih ⊢; omega
theorem parsedR_3 {w a b c : List UInt8} (h : splitL 32 w = [a, b, c]) : parsedR w = if ((bs a).toList == headB.toList) = true then (((signedF (bs b)).1, (signedF (bs c)).1), (signedF (bs b)).2 && (signedF (bs c)).2) else ((0, 0), false) := by unfold parsedR; rw [h]
theorem parsedR_not {w : List UInt8} (h : (splitL 32 w).length ≠ 3) : parsedR w = ((0, 0), false) := by
  unfold parsedR
  split
  · rename_i e; rw [e] at h; exact absurd rfl h
  · rfl
theorem vc92 : ∀ (s : ByteArray), wpF Tryz.prog G150 (ann0 (annParseR s)) Tryz.f92 cParseR (s, ()) = ((decide ((4096 : Int) < (↑(ByteArray.size s) : Int)) = true → [] = (parseR s).fst ∧ (0 : Int) = (parseR s).snd.fst ∧ (26 : Int) = (parseR s).snd.snd) ∧ (decide ((4096 : Int) < (↑(ByteArray.size s) : Int)) = false → (ByteArray.size s ≤ (1000000 : Nat) ∧ (0 : Int) ≤ (10 : Int) ∧ (10 : Int) < (256 : Int)) ∧ ((-9223372036854775808 : Int) ≤ (↑(List.length (splitF s (10 : Int))) : Int) - (1 : Int) ∧ (↑(List.length (splitF s (10 : Int))) : Int) - (1 : Int) ≤ (9223372036854775807 : Int)) ∧ ∃ (x : Nat × List (Int × Int)), (s = s ∧ (↑(List.length (splitF s (10 : Int))) : Int) - (1 : Int) = (↑(List.length (splitF s (10 : Int))) : Int) - (1 : Int) ∧ (0 : Int) = (↑x.fst : Int) ∧ splitF s (10 : Int) = splitF s (10 : Int) ∧ List.length x.snd = (0 : Nat)) ∧ (ByteArray.size s ≤ (4096 : Nat) ∧ List.length x.snd = x.fst ∧ x.fst < List.length (splitF s (10 : Int)) ∧ parseR s = parseGo parsedR (List.drop x.fst (splitL (10 : UInt8) s.data.toList)) x.snd) ∧ ∀ (x : Nat × List (Int × Int)), ByteArray.size s ≤ (4096 : Nat) ∧ List.length x.snd = x.fst ∧ x.fst < List.length (splitF s (10 : Int)) ∧ parseR s = parseGo parsedR (List.drop x.fst (splitL (10 : UInt8) s.data.toList)) x.snd → (decide ((↑x.fst : Int) < (↑(List.length (splitF s (10 : Int))) : Int) - (1 : Int)) = true → (((0 : Int) ≤ (↑x.fst : Int) ∧ (↑x.fst : Int) < (↑(List.length (splitF s (10 : Int))) : Int)) ∧ ((0 : Int) ≤ (↑x.fst : Int) ∧ (↑x.fst : Int) < (↑(List.length (splitF s (10 : Int))) : Int)) ∧ ByteArray.size (List.getD (splitF s (10 : Int)) x.fst (ByteArray.mk (Array.mk []))) ≤ (1000000 : Nat) ∧ (0 : Int) ≤ (32 : Int) ∧ (32 : Int) < (256 : Int)) ∧ ((((↑(List.length (splitF (List.getD (splitF s (10 : Int)) x.fst (ByteArray.mk (Array.mk []))) (32 : Int))) : Int) != (3 : Int)) = false → (0 : Int) ≤ (0 : Int) ∧ (0 : Int) < (↑(List.length (splitF (List.getD (splitF s (10 : Int)) x.fst (ByteArray.mk (Array.mk []))) (32 : Int))) : Int)) ∧ (((↑(List.length (splitF (List.getD (splitF s (10 : Int)) x.fst (ByteArray.mk (Array.mk []))) (32 : Int))) : Int) != (3 : Int)) = false → (0 : Int) ≤ (0 : Int) ∧ (0 : Int) < (↑(List.length (splitF (List.getD (splitF s (10 : Int)) x.fst (ByteArray.mk (Array.mk []))) (32 : Int))) : Int))) ∧ ((bif (↑(List.length (splitF (List.getD (splitF s (10 : Int)) x.fst (ByteArray.mk (Array.mk []))) (32 : Int))) : Int) != (3 : Int) then true else !ByteArray.toList (List.getD (splitF (List.getD (splitF s (10 : Int)) x.fst (ByteArray.mk (Array.mk []))) (32 : Int)) (0 : Nat) (ByteArray.mk (Array.mk []))) == ByteArray.toList (ByteArray.mk (Array.mk [(111 : UInt8), (114 : UInt8), (100 : UInt8), (101 : UInt8), (114 : UInt8)]))) = true → [] = (parseR s).fst ∧ (↑x.fst : Int) = (parseR s).snd.fst ∧ (25 : Int) = (parseR s).snd.snd) ∧ ((bif (↑(List.length (splitF (List.getD (splitF s (10 : Int)) x.fst (ByteArray.mk (Array.mk []))) (32 : Int))) : Int) != (3 : Int) then true else !ByteArray.toList (List.getD (splitF (List.getD (splitF s (10 : Int)) x.fst (ByteArray.mk (Array.mk []))) (32 : Int)) (0 : Nat) (ByteArray.mk (Array.mk []))) == ByteArray.toList (ByteArray.mk (Array.mk [(111 : UInt8), (114 : UInt8), (100 : UInt8), (101 : UInt8), (114 : UInt8)]))) = false → (((0 : Int) ≤ (1 : Int) ∧ (1 : Int) < (↑(List.length (splitF (List.getD (splitF s (10 : Int)) x.fst (ByteArray.mk (Array.mk []))) (32 : Int))) : Int)) ∧ ((0 : Int) ≤ (1 : Int) ∧ (1 : Int) < (↑(List.length (splitF (List.getD (splitF s (10 : Int)) x.fst (ByteArray.mk (Array.mk []))) (32 : Int))) : Int)) ∧ ByteArray.size (List.getD (splitF (List.getD (splitF s (10 : Int)) x.fst (ByteArray.mk (Array.mk []))) (32 : Int)) (1 : Nat) (ByteArray.mk (Array.mk []))) ≤ (1000000 : Nat)) ∧ (((0 : Int) ≤ (2 : Int) ∧ (2 : Int) < (↑(List.length (splitF (List.getD (splitF s (10 : Int)) x.fst (ByteArray.mk (Array.mk []))) (32 : Int))) : Int)) ∧ ((0 : Int) ≤ (2 : Int) ∧ (2 : Int) < (↑(List.length (splitF (List.getD (splitF s (10 : Int)) x.fst (ByteArray.mk (Array.mk []))) (32 : Int))) : Int)) ∧ ByteArray.size (List.getD (splitF (List.getD (splitF s (10 : Int)) x.fst (ByteArray.mk (Array.mk []))) (32 : Int)) (2 : Nat) (ByteArray.mk (Array.mk []))) ≤ (1000000 : Nat)) ∧ ((bif !(signedF (List.getD (splitF (List.getD (splitF s (10 : Int)) x.fst (ByteArray.mk (Array.mk []))) (32 : Int)) (1 : Nat) (ByteArray.mk (Array.mk [])))).snd then true else !(signedF (List.getD (splitF (List.getD (splitF s (10 : Int)) x.fst (ByteArray.mk (Array.mk []))) (32 : Int)) (2 : Nat) (ByteArray.mk (Array.mk [])))).snd) = true → [] = (parseR s).fst ∧ (↑x.fst : Int) = (parseR s).snd.fst ∧ (25 : Int) = (parseR s).snd.snd) ∧ ((bif !(signedF (List.getD (splitF (List.getD (splitF s (10 : Int)) x.fst (ByteArray.mk (Array.mk []))) (32 : Int)) (1 : Nat) (ByteArray.mk (Array.mk [])))).snd then true else !(signedF (List.getD (splitF (List.getD (splitF s (10 : Int)) x.fst (ByteArray.mk (Array.mk []))) (32 : Int)) (2 : Nat) (ByteArray.mk (Array.mk [])))).snd) = false → (List.length x.2 + (1 : Nat)) * (16 : Nat) ≤ (140737488355328 : Nat) ∧ ((-9223372036854775808 : Int) ≤ (↑x.fst : Int) + (1 : Int) ∧ (↑x.fst : Int) + (1 : Int) ≤ (9223372036854775807 : Int)) ∧ ∃ (y : Nat × List (Int × Int)), (s = s ∧ (↑(List.length (splitF s (10 : Int))) : Int) - (1 : Int) = (↑(List.length (splitF s (10 : Int))) : Int) - (1 : Int) ∧ (↑x.fst : Int) + (1 : Int) = (↑y.fst : Int) ∧ splitF s (10 : Int) = splitF s (10 : Int) ∧ x.2 ++ [((signedF (List.getD (splitF (List.getD (splitF s (10 : Int)) x.fst (ByteArray.mk (Array.mk []))) (32 : Int)) (1 : Nat) (ByteArray.mk (Array.mk [])))).fst, (signedF (List.getD (splitF (List.getD (splitF s (10 : Int)) x.fst (ByteArray.mk (Array.mk []))) (32 : Int)) (2 : Nat) (ByteArray.mk (Array.mk [])))).fst)] = y.snd) ∧ (ByteArray.size s ≤ (4096 : Nat) ∧ List.length y.snd = y.fst ∧ y.fst < List.length (splitF s (10 : Int)) ∧ parseR s = parseGo parsedR (List.drop y.fst (splitL (10 : UInt8) s.data.toList)) y.snd) ∧ List.length (splitF s (10 : Int)) - y.fst < List.length (splitF s (10 : Int)) - x.fst))) ∧ (decide ((↑x.fst : Int) < (↑(List.length (splitF s (10 : Int))) : Int) - (1 : Int)) = false → (((0 : Int) ≤ (↑(List.length (splitF s (10 : Int))) : Int) - (1 : Int) ∧ (↑(List.length (splitF s (10 : Int))) : Int) - (1 : Int) < (↑(List.length (splitF s (10 : Int))) : Int)) ∧ (0 : Int) ≤ (↑(List.length (splitF s (10 : Int))) : Int) - (1 : Int) ∧ (↑(List.length (splitF s (10 : Int))) : Int) - (1 : Int) < (↑(List.length (splitF s (10 : Int))) : Int)) ∧ ((!ByteArray.toList (List.getD (splitF s (10 : Int)) (Int.toNat ((↑(List.length (splitF s (10 : Int))) : Int) - (1 : Int))) (ByteArray.mk (Array.mk []))) == ByteArray.toList (ByteArray.mk (Array.mk []))) = true → [] = (parseR s).fst ∧ (↑(List.length (splitF s (10 : Int))) : Int) - (1 : Int) = (parseR s).snd.fst ∧ (25 : Int) = (parseR s).snd.snd) ∧ ((!ByteArray.toList (List.getD (splitF s (10 : Int)) (Int.toNat ((↑(List.length (splitF s (10 : Int))) : Int) - (1 : Int))) (ByteArray.mk (Array.mk []))) == ByteArray.toList (ByteArray.mk (Array.mk []))) = false → ((ordersS x.2 != (0 : Int)) = true → [] = (parseR s).fst ∧ (↑(List.length (splitF s (10 : Int))) : Int) - (1 : Int) = (parseR s).snd.fst ∧ ordersS x.2 = (parseR s).snd.snd) ∧ ((ordersS x.2 != (0 : Int)) = false → x.2 = (parseR s).fst ∧ (0 : Int) = (parseR s).snd.fst ∧ (0 : Int) = (parseR s).snd.snd))))) := by
  intros
  kernel_rfl
theorem wp92 (s : ByteArray) : wpF Tryz.prog G150 (ann0 (annParseR s)) Tryz.f92 cParseR (s, ()) := by
  refine (vc92 s).mpr ?_
  refine ⟨fun h => ?_, fun h => ?_⟩
  · have h : 4096 < s.size := by have := of_decide_eq_true h
                                 omega
    have e : parseR s = ([], 0, 26) := by unfold parseR; rw [if_pos h]
    rw [e]; exact ⟨rfl, rfl, rfl⟩
  have hs : ¬ 4096 < s.size := by have := of_decide_eq_false h
                                  omega
  have e : parseR s = parseGo parsedR (splitL 10 s.data.toList) [] := by unfold parseR; rw [if_neg hs]
  have hsl : s.data.toList.length = s.size := by simp
  have hcnt := splitL_cnt 10 s.data.toList
  have hne := splitL_ne 10 s.data.toList
  have hmem := splitL_len 10 s.data.toList
  rw [splitF_10]
  generalize hL : splitL 10 s.data.toList = L at *
  have hlen : (L.map bs).length = L.length := List.length_map _
  have hpos : 0 < L.length := List.length_pos_iff.2 hne
  refine ⟨⟨by omega, by decide, by decide⟩, by omega, (0, []), ⟨rfl, rfl, rfl, rfl, rfl⟩, ⟨by omega, rfl, by dsimp only; omega, by simpa using e⟩, ?_⟩
  rintro ⟨k, acc⟩ ⟨_, h1, h2, h3⟩
  dsimp only at h1 h2 h3 ⊢
  rw [hlen] at h2 ⊢
  have hget : ∀ j, j < L.length → (L.map bs).getD j (⟨⟨[]⟩⟩ : ByteArray) = bs (L.getD j []) := fun j hj => by
    rw [List.getD_eq_getElem?_getD, List.getD_eq_getElem?_getD, List.getElem?_eq_getElem (by rw [hlen]; exact hj), List.getElem?_eq_getElem hj]
    simp
  have hdr : ∀ j, j < L.length → L.drop j = L.getD j [] :: L.drop (j + 1) := fun j hj => by
    rw [List.drop_eq_getElem_cons hj, List.getD_eq_getElem?_getD, List.getElem?_eq_getElem hj]; rfl
  have hm : ∀ j, j < L.length → (L.getD j []).length ≤ s.size := fun j hj => by
    rw [← hsl]
    apply hmem
    rw [List.getD_eq_getElem?_getD, List.getElem?_eq_getElem hj]
    exact List.getElem_mem hj
  refine ⟨fun h => ?_, fun h => ?_⟩
  · have h : (k : Int) < L.length - 1 := of_decide_eq_true h
    have hk1 : k + 1 < L.length := by omega
    rw [hget k h2]
    rw [hdr k h2, parseGo_cons _ (by rw [hdr (k + 1) hk1]; simp)] at h3
    have hw := hm k h2
    generalize L.getD k [] = w at *
    rw [splitF_32]
    have hwm := splitL_len 32 w
    by_cases hc : (splitL 32 w).length = 3
    · obtain ⟨a, b, c, hw3⟩ : ∃ a b c, splitL 32 w = [a, b, c] := by
        match splitL 32 w, hc with
        | [a, b, c], _ => exact ⟨a, b, c, rfl⟩
      have ep := parsedR_3 hw3
      rw [hw3] at hwm ⊢
      have hb := hwm b (by simp)
      have hcc := hwm c (by simp)
      rw [ep] at h3
      have hbz : (bs b).size ≤ 1000000 := by rw [bs_size]; omega
      have hcz : (bs c).size ≤ 1000000 := by rw [bs_size]; omega
      refine ⟨⟨by omega, by omega, by rw [bs_size]; omega, by decide, by decide⟩, ⟨fun _ => ⟨Int.le_refl _, by simp⟩, fun _ => ⟨Int.le_refl _, by simp⟩⟩, fun h => ?_, fun h => ?_⟩
      · replace h : (!((bs a).toList == headB.toList)) = true := h
        have h : ((bs a).toList == headB.toList) = false := by simpa using h
        rw [h] at h3
        rw [h3, ← h1]; exact ⟨rfl, rfl, rfl⟩
      · replace h : (!((bs a).toList == headB.toList)) = false := h
        have h : ((bs a).toList == headB.toList) = true := by simpa using h
        rw [h] at h3
        refine ⟨⟨by simp, by simp, hbz⟩, ⟨by simp, by simp, hcz⟩, fun hb => ?_, fun hb => ?_⟩
        · replace hb : (bif !(signedF (bs b)).2 then true else !(signedF (bs c)).2) = true := hb
          have hb : ((signedF (bs b)).2 && (signedF (bs c)).2) = false := by
            revert hb; cases (signedF (bs b)).2 <;> cases (signedF (bs c)).2 <;> decide
          simp only [hb] at h3
          rw [h3, ← h1]; exact ⟨rfl, rfl, rfl⟩
        · replace hb : (bif !(signedF (bs b)).2 then true else !(signedF (bs c)).2) = false := hb
          have hb : ((signedF (bs b)).2 && (signedF (bs c)).2) = true := by
            revert hb; cases (signedF (bs b)).2 <;> cases (signedF (bs c)).2 <;> decide
          simp only [hb] at h3
          refine ⟨by omega, by omega, (k + 1, acc ++ [((signedF (bs b)).1, (signedF (bs c)).1)]), ⟨rfl, rfl, by simp, rfl, rfl⟩, ⟨by omega, by simp [h1], by dsimp only; omega, h3⟩, by dsimp only; omega⟩
    · have ep := parsedR_not hc
      rw [ep] at h3
      have e3 : ((((splitL 32 w).map bs).length : Int) != 3) = true := by
        rw [bne_iff_ne, List.length_map]; omega
      rw [e3]
      refine ⟨⟨by omega, by omega, by rw [bs_size]; omega, by decide, by decide⟩, ⟨fun h => (by cases h), fun h => (by cases h)⟩, fun _ => ?_, fun h => (by cases h)⟩
      rw [h3, ← h1]; exact ⟨rfl, rfl, rfl⟩
  · have h : ¬ (k : Int) < L.length - 1 := of_decide_eq_false h
    have hk1 : k + 1 = L.length := by omega
    have ek : ((L.length : Int) - 1).toNat = k := by omega
    rw [ek, hget k h2, Lib.toList_data]
    rw [hdr k h2, List.drop_eq_nil_of_le (by omega)] at h3
    generalize L.getD k [] = w at *
    have e1 : (bs w).data.toList = w := rfl
    have e2 : (⟨⟨[]⟩⟩ : ByteArray).toList = [] := by rw [Lib.toList_data]
    rw [e1, e2]
    refine ⟨by omega, fun hw => ?_, fun hw => ?_⟩
    · have hw : ¬ w = [] := by simpa using hw
      have h4 : parseGo parsedR [w] acc = (([], (acc.length : Int), 25) : List (Int × Int) × Int × Int) := by simp only [parseGo, if_neg hw]
      rw [h4] at h3
      rw [h3]; exact ⟨rfl, by dsimp only; omega, rfl⟩
    · have hw : w = [] := by simpa using hw
      have h4 : parseGo parsedR [w] acc = finishF acc acc.length := by simp only [parseGo, if_pos hw]
      rw [h4] at h3
      unfold finishF at h3
      refine ⟨fun h => ?_, fun h => ?_⟩
      · have h : ¬ ordersS acc = 0 := by simpa using h
        rw [if_neg h] at h3
        rw [h3]; exact ⟨rfl, by dsimp only; omega, rfl⟩
      · have h : ordersS acc = 0 := by simpa using h
        rw [if_pos h] at h3
        rw [h3]; exact ⟨rfl, rfl, rfl⟩
theorem ok92 : Ok Tryz.prog 92 cParseR := ok_of_wp mixed g150 (by kernel_rfl) (by kernel_rfl) (fun xx => ann0 (annParseR xx.1)) fun xx => wp92 xx.1
abbrev G151 : Gam := (92, cParseR) :: G150
theorem g151 : GamOk Tryz.prog G151 := .cons ok92 g150
end Go.Proofs.YtacaadhlobbemaaGreatDoor
namespace Go.Proofs.YtacaadhlobbemaaGreatDoor
open Go.Sx
theorem digFrom_snoc (c : UInt8) : ∀ (l : List UInt8) (n : Int), digFrom (l ++ [c]) n = if (digFrom l n).2 = true ∧ isDig c.toNat = true then (10 * (digFrom l n).1 + (c.toNat - 48), true) else (0, false)
  | [], n => by
    show (if isDig c.toNat = true then _ else _) = _
    by_cases h : isDig c.toNat = true
    · rw [if_pos h, if_pos ⟨rfl, h⟩]; rfl
    · rw [if_neg h, if_neg (fun q => h q.2)]
  | x :: l, n => by
    have ih := digFrom_snoc c l (10 * n + (x.toNat - 48))
    show (if isDig x.toNat = true then digFrom (l ++ [c]) (10 * n + (x.toNat - 48)) else (0, false)) = _
    have e : digFrom (x :: l) n = if isDig x.toNat = true then digFrom l (10 * n + (x.toNat - 48)) else (0, false) := rfl
    rw [e]
    by_cases h : isDig x.toNat = true
    · rw [if_pos h, if_pos h, ih]
    · rw [if_neg h, if_neg h, if_neg (fun q => by cases q.1)]
theorem dec_snoc (u : Nat) : 10 ≤ u → Lib.decDigits u = Lib.decDigits (u / 10) ++ [UInt8.ofNat (48 + u % 10)] := fun h => dec_big (by omega)
theorem dig_ofNat {x : Nat} (h : x < 10) : (UInt8.ofNat (48 + x)).toNat = 48 + x := UInt8.toNat_ofNat_of_lt' (by show 48 + x < 256; omega)
theorem isDig_ofNat {x : Nat} (h : x < 10) : isDig (UInt8.ofNat (48 + x)).toNat = true := by
  rw [dig_ofNat h]; unfold isDig; simp; omega
theorem digFrom_dec (u : Nat) : digFrom (Lib.decDigits u) 0 = ((u : Int), true) := by
  induction u using Nat.strongRecOn with
  | ind u ih =>
    by_cases h : u < 10
    · rw [Lib.decDigits_one h]
      show (if isDig (UInt8.ofNat (48 + u)).toNat = true then _ else _) = _
      rw [if_pos (isDig_ofNat h), dig_ofNat h]
      show ((_ : Int), true) = _
      congr 1; omega
    · have hd : u % 10 < 10 := Nat.mod_lt _ (by decide)
      rw [dec_snoc u (by omega), digFrom_snoc, ih (u / 10) (by omega), if_pos ⟨rfl, isDig_ofNat hd⟩, dig_ofNat hd]
      congr 1; dsimp only; omega
theorem dec_head (u : Nat) : ∃ c r, Lib.decDigits u = c :: r ∧ isDig c.toNat = true ∧ (1 ≤ u → c.toNat ≠ 48) := by
  induction u using Nat.strongRecOn with
  | ind u ih =>
    by_cases h : u < 10
    · refine ⟨_, _, Lib.decDigits_one h, isDig_ofNat h, fun h1 => ?_⟩
      rw [dig_ofNat h]; omega
    · obtain ⟨c, r, e, h1, h2⟩ := ih (u / 10) (by omega)
      exact ⟨c, r ++ [UInt8.ofNat (48 + u % 10)], by rw [dec_snoc u (by omega), e]; rfl, h1, fun _ => h2 (by omega)⟩
theorem dec_len_pos (u : Nat) : 1 ≤ (Lib.decDigits u).length := by
  obtain ⟨c, r, e, _⟩ := dec_head u
  rw [e]; simp
theorem dec_len : ∀ (k u : Nat), ((Lib.decDigits u).length ≤ k + 1 ↔ u < 10 ^ (k + 1))
  | 0, u => by
    by_cases h : u < 10
    · rw [Lib.decDigits_one h]; simp; omega
    · have h2 := dec_len_pos (u / 10)
      rw [dec_snoc u (by omega), List.length_append]
      simp only [List.length_cons, List.length_nil]
      constructor
      · intro q; omega
      · intro q; simp at q; omega
  | k + 1, u => by
    by_cases h : u < 10
    · rw [Lib.decDigits_one h]
      have : 10 ≤ 10 ^ (k + 1 + 1) := by
        rw [Nat.pow_succ]
        have := Nat.pos_of_ne_zero (n := 10 ^ (k + 1)) (by simp)
        omega
      simp; omega
    · have ih := dec_len k (u / 10)
      rw [dec_snoc u (by omega), List.length_append]
      simp only [List.length_cons, List.length_nil]
      rw [Nat.pow_succ]
      constructor
      · intro q
        have := ih.1 (by omega)
        omega
      · intro q
        have := ih.2 (by omega)
        omega
theorem canon : ∀ (k : Nat) (l : List UInt8), l.length = k + 1 → (digFrom l 0).2 = true → (1 < l.length → ∀ c, l.head? = some c → c.toNat ≠ 48) → l = Lib.decDigits (digFrom l 0).1.toNat
  | 0, l, hl, hd, _ => by
    match l, hl with
    | [c], _ =>
      have e : digFrom [c] 0 = if isDig c.toNat = true then ((10 * 0 + (c.toNat - 48) : Int), true) else (0, false) := rfl
      by_cases h : isDig c.toNat = true
      · rw [e, if_pos h]
        have hr := dig_rng h
        have : ((10 * 0 + ((c.toNat : Int) - 48))).toNat = c.toNat - 48 := by omega
        dsimp only
        rw [this, Lib.decDigits_one (by omega), show 48 + (c.toNat - 48) = c.toNat by omega, UInt8.ofNat_toNat]
      · rw [e, if_neg h] at hd; cases hd
  | k + 1, l, hl, hd, h0 => by
    obtain ⟨i, c, rfl⟩ : ∃ i c, l = i ++ [c] := by
      rcases List.eq_nil_or_concat l with h | ⟨i, c, h⟩
      · rw [h] at hl; simp at hl
      · exact ⟨i, c, by simpa using h⟩
    have hil : i.length = k + 1 := by simpa using hl
    have hs := digFrom_snoc c i 0
    by_cases hc : (digFrom i 0).2 = true ∧ isDig c.toNat = true
    · rw [if_pos hc] at hs
      have hh : ∀ d, i.head? = some d → d.toNat ≠ 48 := fun d hd => h0 (by simp; omega) d (by
        cases i with
        | nil => cases hd
        | cons a b => exact hd)
      have ih := canon k i hil hc.1 fun _ => hh
      have hr := dig_rng hc.2
      have hn := (digFrom_rng (l := i) (n := 0) (Int.le_refl _)).1
      obtain ⟨m, hm⟩ := Int.eq_ofNat_of_zero_le hn
      rw [hm] at ih hs
      simp only [Int.toNat_natCast] at ih
      have hm1 : 1 ≤ m := by
        rcases Nat.eq_zero_or_pos m with h | h
        · subst h
          rw [ih, Lib.decDigits_one (by decide)] at hh
          exact absurd rfl (hh 48 rfl)
        · exact h
      rw [hs]
      have e : (10 * (m : Int) + ((c.toNat : Int) - 48)).toNat = 10 * m + (c.toNat - 48) := by omega
      dsimp only
      rw [e, dec_snoc _ (by omega), show (10 * m + (c.toNat - 48)) / 10 = m by omega, show 48 + (10 * m + (c.toNat - 48)) % 10 = c.toNat by omega, UInt8.ofNat_toNat, ← ih]
    · rw [hs, if_neg hc] at hd; cases hd
theorem parse_step {c : UInt8} {r : List UInt8} {n : Nat} (h : 48 ≤ c.toNat ∧ c.toNat ≤ 57) (h1 : ¬ 1844674407370955162 ≤ n) (h2 : ¬ 18446744073709551616 ≤ n * 10 + (c.toNat - 48)) : Lib.parseUint10 n (c :: r) = Lib.parseUint10 (n * 10 + (c.toNat - 48)) r := by
  simp only [Lib.parseUint10]
  rw [if_pos h, if_neg h1, if_neg h2]
theorem digFrom_cons (c : UInt8) (r : List UInt8) (n : Int) : digFrom (c :: r) n = if isDig c.toNat = true then digFrom r (10 * n + (c.toNat - 48)) else (0, false) := rfl
theorem parse_dig (l : List UInt8) : ∀ (n : Nat), (digFrom l n).2 = true → (digFrom l n).1 < 1000000000000000000 → Lib.parseUint10 n l = .ok (digFrom l n).1.toNat ∧ (n : Int) ≤ (digFrom l n).1 := by
  induction l with
  | nil => exact fun n _ _ => ⟨rfl, Int.le_refl _⟩
  | cons c r ih =>
    intro n h1 h2
    by_cases h : isDig c.toNat = true
    · rw [digFrom_cons, if_pos h] at h1 h2 ⊢
      have hr := dig_rng h
      have en : (10 * (n : Int) + ((c.toNat : Int) - 48)) = ((n * 10 + (c.toNat - 48) : Nat) : Int) := by omega
      rw [en] at h1 h2 ⊢
      obtain ⟨a1, a2⟩ := ih _ h1 h2
      have h3 : n < 1000000000000000000 := by omega
      refine ⟨?_, by omega⟩
      rw [parse_step hr (by omega) (by omega)]
      exact a1
    · rw [digFrom_cons, if_neg h] at h1; cases h1
end Go.Proofs.YtacaadhlobbemaaGreatDoor
namespace Go.Proofs.YtacaadhlobbemaaGreatDoor
open Go.Sx
theorem bs_toList (l : List UInt8) : (bs l).toList = l := by rw [Lib.toList_data]; rfl
theorem byte0 (c : UInt8) (r : List UInt8) : byteAt (bs (c :: r)) 0 = c.toNat := rfl
theorem digits_dec {u : Nat} (h : u < 1000000000) : digitsF (bs (Lib.decDigits u)) = ((u : Int), true) := by
  have hl := (dec_len 8 u).2 (by simpa using h)
  obtain ⟨c, r, e, h1, h2⟩ := dec_head u
  have hb : digBad (bs (Lib.decDigits u)) = false := by
    unfold digBad
    rw [bs_size]
    have hp := dec_len_pos u
    simp only [Bool.or_eq_false_iff, decide_eq_false_iff_not, Bool.and_eq_false_iff]
    refine ⟨⟨by omega, by omega⟩, ?_⟩
    by_cases hu : 1 ≤ u
    · right
      rw [e, byte0]
      have := h2 hu
      omega
    · left
      have : u = 0 := by omega
      subst this
      rw [Lib.decDigits_one (by decide)]; simp
  unfold digitsF
  rw [hb]
  exact digFrom_dec u
theorem signed_itoa {v : Int} (h0 : -1000000000 < v) (h1 : v < 1000000000) : signedF (bs (Lib.itoa v)) = (v, true) := by
  rcases (by omega : v < 0 ∨ 0 ≤ v) with hv | hv
  · obtain ⟨u, hu⟩ := Int.eq_ofNat_of_zero_le (by omega : 0 ≤ -v)
    have hn : v = -(u : Int) := by omega
    subst hn
    rw [Lib.itoa_neg u (by omega)]
    have hc : 0 < (bs (45 :: Lib.decDigits u)).size ∧ byteAt (bs (45 :: Lib.decDigits u)) 0 = 45 := ⟨by rw [bs_size]; simp, rfl⟩
    have ed : (bs (45 :: Lib.decDigits u)).extract 1 (bs (45 :: Lib.decDigits u)).size = bs (Lib.decDigits u) := by rw [ext_drop]; rfl
    unfold signedF
    rw [if_pos hc, ed, digits_dec (by omega)]
    have hu0 : 0 < u := by omega
    simp [hu0]
  · obtain ⟨u, rfl⟩ := Int.eq_ofNat_of_zero_le hv
    have e : Lib.itoa (u : Int) = Lib.decDigits u := Lib.itoa_nonneg u
    rw [e]
    obtain ⟨c, r, e, h3, h4⟩ := dec_head u
    have hr := dig_rng h3
    have hc : ¬ (0 < (bs (Lib.decDigits u)).size ∧ byteAt (bs (Lib.decDigits u)) 0 = 45) := fun q => by
      have := q.2
      rw [e, byte0] at this
      omega
    unfold signedF
    rw [if_neg hc, digits_dec (by omega)]
theorem mag_dec {u : Nat} (h : u < 1000000000) : Lib.parseMag (Lib.decDigits u) = .ok u := by
  obtain ⟨c, r, e, _⟩ := dec_head u
  unfold Lib.parseMag
  rw [if_neg (by rw [e]; simp)]
  have hd := digFrom_dec u
  have := (parse_dig (Lib.decDigits u) 0 (by show (digFrom _ 0).2 = true; rw [hd]) (by show (digFrom _ 0).1 < _; rw [hd]; dsimp only; omega)).1
  rw [this]
  show Lib.NumEnd.ok (digFrom _ 0).1.toNat = _
  rw [hd]; rfl
theorem atoi_itoa {v : Int} (h0 : -1000000000 < v) (h1 : v < 1000000000) : Lib.atoiAll (Lib.itoa v) = .ok v := by
  rcases (by omega : v < 0 ∨ 0 ≤ v) with hv | hv
  · obtain ⟨u, hu⟩ := Int.eq_ofNat_of_zero_le (by omega : 0 ≤ -v)
    have hn : v = -(u : Int) := by omega
    subst hn
    rw [Lib.itoa_neg u (by omega)]
    have hm := mag_dec (u := u) (by omega)
    have e45 : (45 : UInt8).toNat = 45 := rfl
    simp only [Lib.atoiAll, e45]
    rw [if_pos (Or.inr trivial), hm]
    dsimp only
    rw [if_neg (by omega), if_neg (by omega), if_pos trivial]
  · obtain ⟨u, rfl⟩ := Int.eq_ofNat_of_zero_le hv
    have e : Lib.itoa (u : Int) = Lib.decDigits u := Lib.itoa_nonneg u
    rw [e]
    have hm := mag_dec (u := u) (by omega)
    obtain ⟨c, r, e, h3, h4⟩ := dec_head u
    have hr := dig_rng h3
    rw [e] at hm ⊢
    simp only [Lib.atoiAll]
    rw [if_neg (by omega), hm]
    dsimp only
    rw [if_neg (by omega), if_neg (by omega), if_neg (by omega)]
theorem trim_cons (c : UInt8) (r : List UInt8) : trimP (bs (c :: r)) minus = if c = 45 then bs r else bs (c :: r) := by
  have e1 : minus.size = 1 := rfl
  have e2 : minus.toList = [45] := by rw [Lib.toList_data]; rfl
  have e3 : (bs (c :: r)).extract 0 1 = bs [c] := by rw [ext_take]; rfl
  have hp : hasPre (bs (c :: r)) minus = (c == 45) := by
    unfold hasPre
    rw [e1, e2, e3, bs_toList, bs_size]
    simp
  unfold trimP
  rw [hp, e1]
  by_cases h : c = 45
  · rw [if_pos h, if_pos (by simpa using h), ext_drop]; rfl
  · rw [if_neg h, if_neg (by simpa using h)]
theorem int_itoa {v : Int} (h0 : -1000000000 < v) (h1 : v < 1000000000) : intB (bs (Lib.itoa v)) = true ∧ Tryz.intN (bs (Lib.itoa v)) = v := by
  have ha : Lib.atoiAll (bs (Lib.itoa v)).data.toList = .ok v := atoi_itoa h0 h1
  refine ⟨?_, by unfold Tryz.intN; rw [ha]⟩
  have e : intB (bs (Lib.itoa v)) = (((itoaS v).toList == (bs (Lib.itoa v)).toList) && decide (((trimP (bs (Lib.itoa v)) minus).size : Int) ≤ 9)) := by unfold intB; rw [ha]
  rw [e]
  have e1 : itoaS v = bs (Lib.itoa v) := rfl
  rw [e1]
  have h9 : ((trimP (bs (Lib.itoa v)) minus).size : Int) ≤ 9 := by
    rcases (by omega : v < 0 ∨ 0 ≤ v) with hv | hv
    · obtain ⟨u, hu⟩ := Int.eq_ofNat_of_zero_le (by omega : 0 ≤ -v)
      have hn : v = -(u : Int) := by omega
      subst hn
      have hl := (dec_len 8 u).2 (by have : u < 1000000000 := by omega
                                     simpa using this)
      rw [Lib.itoa_neg u (by omega), trim_cons, if_pos rfl, bs_size]
      omega
    · obtain ⟨u, rfl⟩ := Int.eq_ofNat_of_zero_le hv
      have e : Lib.itoa (u : Int) = Lib.decDigits u := Lib.itoa_nonneg u
      rw [e]
      have hl := (dec_len 8 u).2 (by have : u < 1000000000 := by omega
                                     simpa using this)
      obtain ⟨c, r, e, h3, h4⟩ := dec_head u
      have hr := dig_rng h3
      rw [e] at hl ⊢
      rw [trim_cons, if_neg (by rintro rfl; have : (45 : UInt8).toNat = 45 := rfl; omega), bs_size]
      omega
  simp [h9]
theorem int_inv {s : ByteArray} (h : intB s = true) : ∃ v, -1000000000 < v ∧ v < 1000000000 ∧ s = bs (Lib.itoa v) := by
  unfold intB at h
  split at h
  · rename_i v hv
    simp only [Bool.and_eq_true, beq_iff_eq, decide_eq_true_eq] at h
    obtain ⟨h1, h2⟩ := h
    have e1 : itoaS v = bs (Lib.itoa v) := rfl
    rw [e1, bs_toList, Lib.toList_data] at h1
    have es : s = bs (Lib.itoa v) := by rw [h1]; rfl
    rw [es] at h2
    rcases (by omega : v < 0 ∨ 0 ≤ v) with hv | hv
    · obtain ⟨u, hu⟩ := Int.eq_ofNat_of_zero_le (by omega : 0 ≤ -v)
      have hn : v = -(u : Int) := by omega
      subst hn
      rw [Lib.itoa_neg u (by omega), trim_cons, if_pos rfl, bs_size] at h2
      have := (dec_len 8 u).1 (by omega)
      have : u < 1000000000 := by simpa using this
      exact ⟨_, by omega, by omega, es⟩
    · obtain ⟨u, rfl⟩ := Int.eq_ofNat_of_zero_le hv
      have e : Lib.itoa (u : Int) = Lib.decDigits u := Lib.itoa_nonneg u
      rw [e] at h2
      obtain ⟨c, r, e2, h3, h4⟩ := dec_head u
      have hr := dig_rng h3
      have hl : (Lib.decDigits u).length ≤ 9 := by
        rw [e2, trim_cons, if_neg (by rintro rfl; have : (45 : UInt8).toNat = 45 := rfl; omega), bs_size, ← e2] at h2
        omega
      have := (dec_len 8 u).1 hl
      have : u < 1000000000 := by simpa using this
      exact ⟨_, by omega, by omega, es⟩
  · cases h
theorem digits_inv {s : ByteArray} (h : (digitsF s).2 = true) : ∃ u : Nat, u < 1000000000 ∧ s.data.toList = Lib.decDigits u ∧ (digitsF s).1 = u := by
  have hr := digitsF_rng s
  obtain ⟨u, hu⟩ := Int.eq_ofNat_of_zero_le hr.1
  by_cases hb : digBad s = true
  · unfold digitsF at h; rw [if_pos hb] at h; cases h
  · have ed : digitsF s = digFrom s.data.toList 0 := by unfold digitsF; rw [if_neg hb]
    have hb : digBad s = false := by simpa using hb
    unfold digBad at hb
    simp only [Bool.or_eq_false_iff, decide_eq_false_iff_not, Bool.and_eq_false_iff] at hb
    obtain ⟨⟨b1, b2⟩, b3⟩ := hb
    have hl : s.data.toList.length = s.size := by simp
    have := canon (s.size - 1) s.data.toList (by omega) (by rw [← ed]; exact h) (fun hl2 c hc => by
      rcases b3 with b3 | b3
      · omega
      · intro q
        apply b3
        have : byteAt s 0 = c.toNat := by
          unfold byteAt
          rw [List.getD_eq_getElem?_getD]
          have e0 : s.data.toList[(0 : Int).toNat]? = some c := by rw [← hc]; simp [List.head?_eq_getElem?]
          rw [e0]; rfl
        rw [this, q]; rfl)
    rw [← ed, hu] at this
    exact ⟨u, by omega, this, hu⟩
theorem signed_inv {s : ByteArray} (h : (signedF s).2 = true) : ∃ v, -1000000000 < v ∧ v < 1000000000 ∧ s = bs (Lib.itoa v) := by
  unfold signedF at h
  split at h
  · rename_i hc
    simp only [Bool.and_eq_true, decide_eq_true_eq] at h
    obtain ⟨u, u1, u2, u3⟩ := digits_inv h.1
    rw [u3] at h
    have hl : s.data.toList.length = s.size := by simp
    cases e : s.data.toList with
    | nil => rw [e] at hl; simp at hl; omega
    | cons c r =>
      have es : s = bs (c :: r) := by rw [← e]; rfl
      have hc2 := hc.2
      rw [es, byte0] at hc2
      have hcc : c = 45 := UInt8.toNat.inj (by have : (45 : UInt8).toNat = 45 := rfl; omega)
      rw [ext_drop, e] at u2
      have u2 : r = Lib.decDigits u := u2
      exact ⟨-(u : Int), by omega, by omega, by rw [es, hcc, u2, Lib.itoa_neg u (by omega)]⟩
  · obtain ⟨u, u1, u2, u3⟩ := digits_inv h
    refine ⟨(u : Int), by omega, by omega, ?_⟩
    have e : Lib.itoa (u : Int) = Lib.decDigits u := Lib.itoa_nonneg u
    rw [e, ← u2]; rfl
theorem int_signed (s : ByteArray) : intB s = (signedF s).2 ∧ (intB s = true → Tryz.intN s = (signedF s).1) := by
  by_cases h : intB s = true
  · obtain ⟨v, h0, h1, rfl⟩ := int_inv h
    rw [signed_itoa h0 h1, (int_itoa h0 h1).1, (int_itoa h0 h1).2]
    exact ⟨rfl, fun _ => rfl⟩
  · by_cases h2 : (signedF s).2 = true
    · obtain ⟨v, h0, h1, rfl⟩ := signed_inv h2
      exact absurd (int_itoa h0 h1).1 h
    · have h : intB s = false := by simpa using h
      have h2 : (signedF s).2 = false := by simpa using h2
      rw [h, h2]; exact ⟨rfl, fun h => (by cases h)⟩
theorem parsed_eq (w : List UInt8) : (parsedL w).2 = (parsedR w).2 ∧ ((parsedL w).2 = true → (parsedL w).1 = (parsedR w).1) := by
  have hw : wordsF (bs w) = (splitL 32 w).map bs := rfl
  unfold parsedL
  by_cases hc : (splitL 32 w).length = 3
  · obtain ⟨a, b, c, hw3⟩ : ∃ a b c, splitL 32 w = [a, b, c] := by
      match splitL 32 w, hc with
      | [a, b, c], _ => exact ⟨a, b, c, rfl⟩
    rw [hw3] at hw
    rw [parsedF_3 (show wordsF (bs w) = [bs a, bs b, bs c] from hw), parsedR_3 hw3]
    split
    · have i1 := int_signed (bs b)
      have i2 := int_signed (bs c)
      refine ⟨by dsimp only; rw [i1.1, i2.1], fun h => ?_⟩
      dsimp only at h ⊢
      rw [Bool.and_eq_true] at h
      rw [i1.2 h.1, i2.2 h.2]
    · exact ⟨rfl, fun _ => rfl⟩
  · rw [parsedR_not hc, parsedF_not (by rw [hw, List.length_map]; exact hc)]
    exact ⟨rfl, fun _ => rfl⟩
theorem parseGo_eq : ∀ (l : List (List UInt8)) (acc : List (Int × Int)), parseGo parsedL l acc = parseGo parsedR l acc
  | [], _ => rfl
  | [w], _ => rfl
  | w :: a :: r, acc => by
    have ih := parseGo_eq (a :: r)
    have hp := parsed_eq w
    rw [parseGo_cons parsedL (w := w) (by simp), parseGo_cons parsedR (w := w) (by simp)]
    by_cases h : (parsedL w).2 = true
    · rw [if_pos h, if_pos (by rw [← hp.1]; exact h), hp.2 h, ih]
    · rw [if_neg h, if_neg (by rw [← hp.1]; exact h)]
theorem parse_eq (s : ByteArray) : parseF s = parseR s := by
  unfold parseF parseR
  rw [parseGo_eq]
end Go.Proofs.YtacaadhlobbemaaGreatDoor
namespace Go.Proofs.YtacaadhlobbemaaGreatDoor
open Go.Sx
theorem join_nosep : ∀ xs : List (List UInt8), Lib.join xs [] = xs.flatten
  | [] => rfl
  | x :: r => by
    rw [Lib.join_cons]
    unfold Lib.joinTail
    simp
theorem lineTS_eq (x : Int × Int) : (lineTS x).data.toList = lineR x := by
  unfold lineTS
  rw [ByteArray.data_append, Array.toList_append]
  show Lib.join [[111, 114, 100, 101, 114], Lib.itoa x.1, Lib.itoa x.2] [32] ++ [10] = _
  rw [Lib.join_cons]
  unfold Lib.joinTail
  simp [lineR, headB]
theorem printS_eq (l : List (Int × Int)) : printS l = bs (printR l) := by
  unfold printS joinS
  show bs _ = _
  rw [show ByteArray.empty.data.toList = [] from rfl, join_nosep, List.map_map]
  congr 1
  unfold printR
  rw [List.flatMap_def]
  congr 1
  exact List.map_congr_left fun x _ => lineTS_eq x
theorem orders_small {l : List (Int × Int)} (h : ordersS l = 0) : ∀ x ∈ l, small x := fun x hx => by
  have := orders_all h x hx
  unfold ordOk at this
  unfold small
  omega
theorem fin_len (acc : List (Int × Int)) (n : Nat) : (finishF acc n).1.length ≤ 32 := by
  unfold finishF
  split
  · rename_i h; exact orders_len h
  · exact Nat.zero_le _
theorem parseGo_len (f : List UInt8 → (Int × Int) × Bool) : ∀ (l : List (List UInt8)) (acc : List (Int × Int)), (parseGo f l acc).1.length ≤ 32
  | [], acc => fin_len acc _
  | [w], acc => by
    by_cases h : w = []
    · rw [show parseGo f [w] acc = finishF acc acc.length by simp only [parseGo, if_pos h]]; exact fin_len acc _
    · rw [show parseGo f [w] acc = (([], (acc.length : Int), 25) : List (Int × Int) × Int × Int) by simp only [parseGo, if_neg h]]; exact Nat.zero_le _
  | w :: a :: r, acc => by
    rw [parseGo_cons f (w := w) (by simp)]
    split
    · exact parseGo_len f (a :: r) _
    · exact Nat.zero_le _
theorem parse_len (s : ByteArray) : (parseF s).1.length ≤ 32 := by
  unfold parseF
  split
  · exact Nat.zero_le _
  · exact parseGo_len _ _ _

theorem splitL_app {c : UInt8} : ∀ {a : List UInt8} (r : List UInt8), c ∉ a → splitL c (a ++ c :: r) = a :: splitL c r
  | [], r, _ => by rw [List.nil_append, splitL_cons, if_pos rfl]
  | x :: a, r, h => by
    have hx : ¬ x = c := fun e => h (by rw [e]; simp)
    rw [List.cons_append, splitL_cons, if_neg hx, splitL_app r (fun q => h (by simp [q]))]
theorem splitL_none {c : UInt8} : ∀ {a : List UInt8}, c ∉ a → splitL c a = [a]
  | [], _ => rfl
  | x :: a, h => by
    have hx : ¬ x = c := fun e => h (by rw [e]; simp)
    rw [splitL_cons, if_neg hx, splitL_none (a := a) (fun q => h (by simp [q]))]
def joinC (c : UInt8) : List (List UInt8) → List UInt8
  | [] => []
  | [w] => w
  | w :: r => w ++ c :: joinC c r
theorem joinC_cons (c : UInt8) (w : List UInt8) {r : List (List UInt8)} (h : r ≠ []) : joinC c (w :: r) = w ++ c :: joinC c r := by
  cases r with
  | nil => exact absurd rfl h
  | cons a b => rfl
theorem join_split (c : UInt8) : ∀ l : List UInt8, joinC c (splitL c l) = l
  | [] => rfl
  | x :: r => by
    have ih := join_split c r
    have hne := splitL_ne c r
    rw [splitL_cons]
    split
    · rename_i h
      rw [joinC_cons c [] hne, ih, h]; rfl
    · split
      · rename_i e; exact absurd e hne
      · rename_i h t e
        rw [e] at ih
        cases t with
        | nil =>
          have ih : h = r := ih
          show x :: h = x :: r
          rw [ih]
        | cons a b =>
          rw [joinC_cons c h (by simp)] at ih
          rw [joinC_cons c (x :: h) (by simp), List.cons_append, ih]
def body (x : Int × Int) : List UInt8 := headB.data.toList ++ 32 :: (Lib.itoa x.1 ++ 32 :: Lib.itoa x.2)
theorem lineR_body (x : Int × Int) : lineR x = body x ++ [10] := by simp [lineR, body]
theorem dec_all (u : Nat) : ∀ c ∈ Lib.decDigits u, isDig c.toNat = true := by
  induction u using Nat.strongRecOn with
  | ind u ih =>
    intro c hc
    by_cases h : u < 10
    · rw [Lib.decDigits_one h] at hc
      have : c = UInt8.ofNat (48 + u) := by simpa using hc
      rw [this]; exact isDig_ofNat h
    · rw [dec_snoc u (by omega)] at hc
      rcases List.mem_append.1 hc with hc | hc
      · exact ih (u / 10) (by omega) c hc
      · have : c = UInt8.ofNat (48 + u % 10) := by simpa using hc
        rw [this]; exact isDig_ofNat (Nat.mod_lt _ (by decide))
theorem itoa_all (n : Int) : ∀ c ∈ Lib.itoa n, c ≠ 10 ∧ c ≠ 32 := by
  have key : ∀ (u : Nat), ∀ c ∈ Lib.decDigits u, c ≠ 10 ∧ c ≠ 32 := fun u c hc => by
    have hr := dig_rng (dec_all u c hc)
    have e1 : (10 : UInt8).toNat = 10 := rfl
    have e2 : (32 : UInt8).toNat = 32 := rfl
    exact ⟨by rintro rfl; omega, by rintro rfl; omega⟩
  intro c hc
  unfold Lib.itoa at hc
  split at hc
  · rcases List.mem_cons.1 hc with hc | hc
    · rw [hc]; decide
    · exact key _ c hc
  · exact key _ c hc
theorem body_no10 (x : Int × Int) : (10 : UInt8) ∉ body x := by
  intro h
  unfold body at h
  rcases List.mem_append.1 h with h | h
  · exact absurd h (by decide)
  · rcases List.mem_cons.1 h with h | h
    · exact absurd h (by decide)
    · rcases List.mem_append.1 h with h | h
      · exact (itoa_all _ _ h).1 rfl
      · rcases List.mem_cons.1 h with h | h
        · exact absurd h (by decide)
        · exact (itoa_all _ _ h).1 rfl
theorem split_body (x : Int × Int) : splitL 32 (body x) = [headB.data.toList, Lib.itoa x.1, Lib.itoa x.2] := by
  unfold body
  rw [splitL_app _ (by decide), splitL_app _ (fun h => (itoa_all _ _ h).2 rfl), splitL_none (fun h => (itoa_all _ _ h).2 rfl)]
theorem parsedL_body {x : Int × Int} (h : small x) : parsedL (body x) = (x, true) := by
  obtain ⟨h1, h2, h3, h4⟩ := h
  have hw : wordsF (bs (body x)) = [bs headB.data.toList, bs (Lib.itoa x.1), bs (Lib.itoa x.2)] := by
    show (splitL 32 (body x)).map bs = _
    rw [split_body]; rfl
  unfold parsedL
  rw [parsedF_3 hw, if_pos (by rw [bs_data]; simp), (int_itoa h1 h2).1, (int_itoa h1 h2).2, (int_itoa h3 h4).1, (int_itoa h3 h4).2]
  rfl
theorem parse_bodies : ∀ (l acc : List (Int × Int)), (∀ x ∈ l, small x) → parseGo parsedL (l.map body ++ [[]]) acc = finishF (acc ++ l) (acc ++ l).length
  | [], acc, _ => by rw [List.append_nil]; rfl
  | x :: l, acc, h => by
    rw [List.map_cons, List.cons_append, parseGo_cons _ (by simp), parsedL_body (h x (by simp)), if_pos rfl, parse_bodies l _ fun y hy => h y (by simp [hy])]
    simp
theorem printR_cons (x : Int × Int) (l : List (Int × Int)) : printR (x :: l) = body x ++ 10 :: printR l := by
  show lineR x ++ printR l = _
  rw [lineR_body]; simp
theorem split_print : ∀ l : List (Int × Int), splitL 10 (printR l) = l.map body ++ [[]]
  | [] => rfl
  | x :: l => by rw [printR_cons, splitL_app _ (body_no10 x), split_print l]; rfl
theorem join_bodies : ∀ l : List (Int × Int), joinC 10 (l.map body ++ [[]]) = printR l
  | [] => rfl
  | x :: l => by rw [List.map_cons, List.cons_append, joinC_cons _ _ (by simp), join_bodies l, printR_cons]
theorem parse_print {l : List (Int × Int)} (h : ordersS l = 0) : parseF (bs (printR l)) = (l, 0, 0) := by
  have hsm := orders_small h
  have hp := printR_len hsm
  have hl := orders_len h
  unfold parseF
  rw [if_neg (by rw [bs_size]; omega)]
  show parseGo parsedL (splitL 10 (printR l)) [] = _
  rw [split_print, parse_bodies l [] hsm]
  unfold finishF
  rw [List.nil_append, if_pos h]
theorem parsedL_inv {w : List UInt8} (h : (parsedL w).2 = true) : w = body (parsedL w).1 := by
  unfold parsedL at h ⊢
  by_cases hc : (splitL 32 w).length = 3
  · obtain ⟨a, b, c, hw3⟩ : ∃ a b c, splitL 32 w = [a, b, c] := by
      match splitL 32 w, hc with
      | [a, b, c], _ => exact ⟨a, b, c, rfl⟩
    have hw : wordsF (bs w) = [bs a, bs b, bs c] := by
      show (splitL 32 w).map bs = _
      rw [hw3]; rfl
    rw [parsedF_3 hw] at h ⊢
    by_cases ha : ((bs a).toList == headB.toList) = true
    · rw [if_pos ha] at h ⊢
      dsimp only at h ⊢
      rw [Bool.and_eq_true] at h
      obtain ⟨v, v0, v1, hv⟩ := int_inv h.1
      obtain ⟨u, u0, u1, hu⟩ := int_inv h.2
      have hv' : b = Lib.itoa v := congrArg (·.data.toList) hv
      have hu' : c = Lib.itoa u := congrArg (·.data.toList) hu
      have ha' : a = headB.data.toList := by
        have := beq_iff_eq.1 ha
        rw [bs_toList, Lib.toList_data] at this
        exact this
      rw [hv, hu, (int_itoa v0 v1).2, (int_itoa u0 u1).2]
      have := join_split 32 w
      rw [hw3] at this
      rw [← this, ha', hv', hu']
      rfl
    · rw [if_neg ha] at h; cases h
  · rw [parsedF_not (by show ((splitL 32 w).map bs).length ≠ 3; rw [List.length_map]; exact hc)] at h; cases h
theorem parse_inv : ∀ (L : List (List UInt8)) (acc : List (Int × Int)), L ≠ [] → (parseGo parsedL L acc).2.2 = 0 → ∃ l, L = l.map body ++ [[]] ∧ parseGo parsedL L acc = (acc ++ l, 0, 0) ∧ ordersS (acc ++ l) = 0
  | [], _, h, _ => absurd rfl h
  | [w], acc, _, h => by
    by_cases hw : w = []
    · have e : parseGo parsedL [w] acc = finishF acc acc.length := by simp only [parseGo, if_pos hw]
      rw [e] at h ⊢
      unfold finishF at h ⊢
      by_cases ho : ordersS acc = 0
      · rw [if_pos ho]
        exact ⟨[], by rw [hw]; rfl, by rw [List.append_nil], by rw [List.append_nil]; exact ho⟩
      · rw [if_neg ho] at h; exact absurd h ho
    · have e : parseGo parsedL [w] acc = (([], (acc.length : Int), 25) : List (Int × Int) × Int × Int) := by simp only [parseGo, if_neg hw]
      rw [e] at h; exact absurd (show (25 : Int) = 0 from h) (by decide)
  | w :: a :: r, acc, _, h => by
    rw [parseGo_cons parsedL (w := w) (by simp)] at h ⊢
    by_cases hp : (parsedL w).2 = true
    · rw [if_pos hp] at h ⊢
      obtain ⟨l, h1, h2, h3⟩ := parse_inv (a :: r) _ (by simp) h
      refine ⟨(parsedL w).1 :: l, ?_, by rw [h2]; simp, by rw [← h3]; simp⟩
      rw [List.map_cons, List.cons_append, ← h1, ← parsedL_inv hp]
    · rw [if_neg hp] at h; exact absurd (show (25 : Int) = 0 from h) (by decide)
theorem parse_back {s : ByteArray} (h : (parseF s).2.2 = 0) : ordersS (parseF s).1 = 0 ∧ printS (parseF s).1 = s := by
  unfold parseF at h ⊢
  by_cases hs : 4096 < s.size
  · rw [if_pos hs] at h; exact absurd h (by decide)
  · rw [if_neg hs] at h ⊢
    obtain ⟨l, h1, h2, h3⟩ := parse_inv _ _ (splitL_ne _ _) h
    rw [h2, List.nil_append] at *
    refine ⟨h3, ?_⟩
    have := join_split 10 s.data.toList
    rw [h1, join_bodies] at this
    rw [printS_eq, this]; rfl
theorem parse_cut : ∀ (d acc : List (Int × Int)) (w : List UInt8), (∀ x ∈ d, small x) → w ≠ [] → parseGo parsedL (d.map body ++ [w]) acc = (([], ((acc ++ d).length : Int), 25) : List (Int × Int) × Int × Int)
  | [], acc, w, _, hw => by
    rw [List.append_nil]
    show parseGo parsedL [w] acc = _
    simp only [parseGo, if_neg hw]
  | x :: d, acc, w, h, hw => by
    rw [List.map_cons, List.cons_append, parseGo_cons _ (by simp), parsedL_body (h x (by simp)), if_pos rfl, parse_cut d _ w (fun y hy => h y (by simp [hy])) hw]
    simp
theorem printR_app (a b : List (Int × Int)) : printR (a ++ b) = printR a ++ printR b := by simp [printR]
theorem split_cut : ∀ (d : List (Int × Int)) (x : Int × Int), splitL 10 (printR d ++ body x) = d.map body ++ [body x]
  | [], x => splitL_none (body_no10 x)
  | y :: d, x => by rw [printR_cons, List.append_assoc, List.cons_append, splitL_app _ (body_no10 y), split_cut d x]; rfl
theorem parse_less {l : List (Int × Int)} (h : ordersS l = 0) (hn : l ≠ []) : parseF ((bs (printR l)).extract 0 ((bs (printR l)).size - 1)) = (([], (l.length : Int) - 1, 25) : List (Int × Int) × Int × Int) := by
  have hsm := orders_small h
  have hp := printR_len hsm
  have hl := orders_len h
  obtain ⟨d, x, rfl⟩ : ∃ d x, l = d ++ [x] := by
    rcases List.eq_nil_or_concat l with h | ⟨d, x, h⟩
    · exact absurd h hn
    · exact ⟨d, x, by simpa using h⟩
  have e : printR (d ++ [x]) = (printR d ++ body x) ++ [10] := by
    rw [printR_app]
    show printR d ++ (lineR x ++ []) = _
    rw [List.append_nil, lineR_body, List.append_assoc]
  have hbn : body x ≠ [] := by unfold body; simp
  have ex : (bs (printR (d ++ [x]))).extract 0 ((bs (printR (d ++ [x]))).size - 1) = bs (printR d ++ body x) := by
    rw [ext_take, bs_size, e]
    have e2 : (bs ((printR d ++ body x) ++ [10])).data.toList = (printR d ++ body x) ++ [10] := rfl
    rw [e2]
    have el : ((printR d ++ body x) ++ [10]).length - 1 = (printR d ++ body x).length := by rw [List.length_append]; rfl
    rw [el, List.take_left]
  rw [ex]
  have hle : (printR d ++ body x).length ≤ 4096 := by
    have : (printR (d ++ [x])).length = (printR d ++ body x).length + 1 := by rw [e, List.length_append]; rfl
    omega
  unfold parseF
  rw [if_neg (by rw [bs_size]; omega)]
  show parseGo parsedL (splitL 10 (printR d ++ body x)) [] = _
  rw [split_cut, parse_cut d [] _ (fun y hy => hsm y (by simp [hy])) hbn, List.nil_append]
  simp
end Go.Proofs.YtacaadhlobbemaaGreatDoor
