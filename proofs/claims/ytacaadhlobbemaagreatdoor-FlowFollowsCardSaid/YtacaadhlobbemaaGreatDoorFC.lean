/- Contracts of the functions that the laws reach: part of the proof. -/
import Derived.Test.YtacaadhlobbemaaGreatDoorFB
set_option linter.unusedSimpArgs false
set_option linter.unusedVariables false
set_option maxRecDepth 20000
namespace Go.Proofs.YtacaadhlobbemaaGreatDoor
open Go.Sx
def cConcat : Con := { args := [.val false (.list 85 (.list 172 sPt))], ress := [(false, .list 172 sPt)], owns := [true], pre := fun (l, _) => [l.length ≤ 1000, ∀ x ∈ l, x.length ≤ 1000], spec := fun (l, _) => (l.flatten, ()) }
abbrev annCat (l : List (List (Int × Int))) : Nat → Option Ann := fun id =>
  if id = 0 then some { X := Nat, σ := fun k => ⟨1, [(0, .one (.sl 0)), (3, .one (.int .i64 (l.take k).flatten.length)), (9, .one (.sl 0)), (10, .one (.int .i64 l.length)), (11, .one (.int .i64 k))], [(0, .imm 85 (.list 172 sPt) l)]⟩, inv := fun k => k ≤ l.length, mu := fun k => l.length - k }
  else if id = 2 then some { X := Nat, σ := fun k => ⟨2, [(6, .one (.sl 1)), (25, .one (.sl 0)), (26, .one (.int .i64 l.length)), (27, .one (.int .i64 k))], [(0, .imm 85 (.list 172 sPt) l), (1, .own 172 sPt (l.take k).flatten)]⟩, inv := fun k => k ≤ l.length, mu := fun k => l.length - k }
  else none
theorem flat_le {l : List (List (Int × Int))} (h : ∀ x ∈ l, x.length ≤ 1000) : l.flatten.length ≤ 1000 * l.length := by
  induction l with
  | nil => simp
  | cons x r ih =>
    have i1 := ih fun y hy => h y (by simp [hy])
    have i2 := h x (by simp)
    simp only [List.flatten_cons, List.length_append, List.length_cons]
    omega
theorem vc125 : ∀ (l : List (List (Int × Int))), wpF Tryz.prog G130 (annCat l) Tryz.f125 cConcat (l, ()) = (List.length l ≤ (1000 : Nat) → (∀ (x : List (Int × Int)), x ∈ l → List.length x ≤ (1000 : Nat)) → ∃ (x : Nat), ((0 : Int) = (↑(List.length (List.flatten (List.take x l))) : Int) ∧ (↑(List.length l) : Int) = (↑(List.length l) : Int) ∧ (0 : Int) = (↑x : Int) ∧ l = l) ∧ x ≤ List.length l ∧ ∀ (x : Nat), x ≤ List.length l → (decide ((↑x : Int) < (↑(List.length l) : Int)) = true → (((0 : Int) ≤ (↑x : Int) ∧ (↑x : Int) < (↑(List.length l) : Int)) ∧ (0 : Int) ≤ (↑x : Int) ∧ (↑x : Int) < (↑(List.length l) : Int)) ∧ ((-9223372036854775808 : Int) ≤ (↑(List.length (List.flatten (List.take x l))) : Int) + (↑(List.length (List.getD l x [])) : Int) ∧ (↑(List.length (List.flatten (List.take x l))) : Int) + (↑(List.length (List.getD l x [])) : Int) ≤ (9223372036854775807 : Int)) ∧ (decide ((↑(List.length (List.flatten (List.take x l))) : Int) + (↑(List.length (List.getD l x [])) : Int) < (0 : Int)) = true → STUCK (7 : Nat) (0 : Nat)) ∧ (decide ((↑(List.length (List.flatten (List.take x l))) : Int) + (↑(List.length (List.getD l x [])) : Int) < (0 : Int)) = false → ((-9223372036854775808 : Int) ≤ (↑x : Int) + (1 : Int) ∧ (↑x : Int) + (1 : Int) ≤ (9223372036854775807 : Int)) ∧ ∃ (y : Nat), ((↑(List.length (List.flatten (List.take x l))) : Int) + (↑(List.length (List.getD l x [])) : Int) = (↑(List.length (List.flatten (List.take y l))) : Int) ∧ (↑(List.length l) : Int) = (↑(List.length l) : Int) ∧ (↑x : Int) + (1 : Int) = (↑y : Int) ∧ l = l) ∧ y ≤ List.length l ∧ List.length l - y < List.length l - x)) ∧ (decide ((↑x : Int) < (↑(List.length l) : Int)) = false → ((0 : Int) ≤ (↑(List.length (List.flatten (List.take x l))) : Int) ∧ (↑(List.length (List.flatten (List.take x l))) : Int) ≤ (1000000 : Int)) ∧ ∃ (x : Nat), ((↑(List.length l) : Int) = (↑(List.length l) : Int) ∧ (0 : Int) = (↑x : Int) ∧ l = l ∧ [] = List.flatten (List.take x l)) ∧ x ≤ List.length l ∧ ∀ (x : Nat), x ≤ List.length l → (decide ((↑x : Int) < (↑(List.length l) : Int)) = true → (((0 : Int) ≤ (↑x : Int) ∧ (↑x : Int) < (↑(List.length l) : Int)) ∧ (0 : Int) ≤ (↑x : Int) ∧ (↑x : Int) < (↑(List.length l) : Int)) ∧ (List.length (List.flatten (List.take x l)) + List.length (List.getD l x [])) * (16 : Nat) ≤ (140737488355328 : Nat) ∧ ((-9223372036854775808 : Int) ≤ (↑x : Int) + (1 : Int) ∧ (↑x : Int) + (1 : Int) ≤ (9223372036854775807 : Int)) ∧ ∃ (y : Nat), ((↑(List.length l) : Int) = (↑(List.length l) : Int) ∧ (↑x : Int) + (1 : Int) = (↑y : Int) ∧ l = l ∧ List.flatten (List.take x l) ++ List.getD l x [] = List.flatten (List.take y l)) ∧ y ≤ List.length l ∧ List.length l - y < List.length l - x) ∧ (decide ((↑x : Int) < (↑(List.length l) : Int)) = false → List.flatten (List.take x l) = List.flatten l))) := by
  intros
  kernel_rfl
theorem wp125 (l : List (List (Int × Int))) : wpF Tryz.prog G130 (annCat l) Tryz.f125 cConcat (l, ()) := by
  refine (vc125 l).mpr ?_
  intro hb hl
  have hs : ∀ k, k < l.length → (l.take (k + 1)).flatten = (l.take k).flatten ++ l.getD k [] := fun k hk => by
    rw [← take_snoc (d := []) hk, List.flatten_append]; simp
  have hbd : ∀ k, (l.take k).flatten.length ≤ 1000000 := fun k => by
    have := flat_le (l := l.take k) fun x hx => hl x (List.mem_of_mem_take hx)
    have h2 := List.length_take_le' k l
    omega
  refine ⟨(0 : Nat), by simp, Nat.zero_le _, fun (k : Nat) hk => ⟨fun h => ?_, fun h => ?_⟩⟩
  · have hlt : k < l.length := by simpa using h
    have h1 := hl _ (getD_mem (d := []) hlt)
    have h2 := hbd k
    refine ⟨⟨⟨by omega, by omega⟩, by omega, by omega⟩, ⟨by omega, by omega⟩, fun h3 => ?_, fun h3 => ⟨⟨by omega, by omega⟩, (k + 1 : Nat), ⟨?_, rfl, by simp, rfl⟩, by omega, by omega⟩⟩
    · have := of_decide_eq_true h3; omega
    · rw [hs k hlt, List.length_append]; simp
  · have h2 := hbd k
    refine ⟨⟨by omega, by omega⟩, (0 : Nat), by simp, Nat.zero_le _, fun (k : Nat) hk => ⟨fun h => ?_, fun h => ?_⟩⟩
    · have hlt : k < l.length := by simpa using h
      have h1 := hl _ (getD_mem (d := []) hlt)
      have h2 := hbd k
      refine ⟨⟨⟨by omega, by omega⟩, by omega, by omega⟩, ?_, ⟨by omega, by omega⟩, (k + 1 : Nat), ⟨rfl, by simp, rfl, (hs k hlt).symm⟩, by omega, by omega⟩
      show ((l.take k).flatten.length + (l.getD k []).length) * 16 ≤ 140737488355328
      omega
    · have hlt : ¬ k < l.length := by simpa using h
      rw [List.take_of_length_le (by omega)]
theorem ok125 : Ok Tryz.prog 125 cConcat := ok_of_wp mixed g130 (by kernel_rfl) (by kernel_rfl) (fun xx => annCat xx.1) fun xx => wp125 xx.1
abbrev G131 : Gam := (125, cConcat) :: G130
theorem g131 : GamOk Tryz.prog G131 := .cons ok125 g130
def keysS : List (Int × Int) → List Int → List Int
  | [], ks => ks
  | x :: r, ks => keysS r (insKey ks x.1)
def mergeK (a b : List (Int × Int)) : List Int := keysS (a ++ b) []
def mergeO (a b : List (Int × Int)) : List (Int × Int) := isortT ((mergeK a b).map (askP a b))
def mergeE2 (a b : List (Int × Int)) : Int := firstS [bif decide (32 < ((mergeO a b).length : Int)) then 5 else 0, bif decide (0 ≤ idxS (fun x : Int × Int => withinS x.2 (-1000) 1000 != 0) (mergeO a b) 0) then 4 else 0]
def mergedF (a b : List (Int × Int)) : List (Int × Int) × Int := if mergeE a b ≠ 0 then ([], mergeE a b) else if mergeE2 a b ≠ 0 then ([], mergeE2 a b) else (mergeO a b, 0)
def cMerged : Con := { args := [aL 172, aL 172], ress := [(false, .list 172 sPt), I], owns := [true], pre := fun _ => [], spec := fun (a, b, _) => ((mergedF a b).1, (mergedF a b).2, ()) }
def seenO (a b : List (Int × Int)) (ks : List Int) (seen : List Nat) : List (Int × Int) := seen.map fun p => askP a b (ks.getD p 0)
theorem keysS_snoc : ∀ (l : List (Int × Int)) (x : Int × Int) (ks : List Int), keysS (l ++ [x]) ks = insKey (keysS l ks) x.1
  | [], _, _ => rfl
  | y :: l, x, ks => keysS_snoc l x (insKey ks y.1)
theorem insKey_nodup {ks : List Int} {k : Int} (h : ks.Nodup) : (insKey ks k).Nodup := by
  unfold insKey
  cases hc : ks.contains k with
  | true => exact h
  | false =>
    have : k ∉ ks := by simpa using hc
    simp only [cond_false]
    refine List.nodup_append.2 ⟨h, by simp, fun x hx y hy => ?_⟩
    have : y = k := by simpa using hy
    subst this
    rintro rfl
    contradiction
theorem insKey_len {ks : List Int} {k : Int} : (insKey ks k).length ≤ ks.length + 1 := by
  unfold insKey
  cases ks.contains k <;> simp
theorem keysS_ok : ∀ {l : List (Int × Int)} {ks : List Int}, ks.Nodup → (keysS l ks).Nodup ∧ (keysS l ks).length ≤ ks.length + l.length
  | [], ks, h => ⟨h, by simp [keysS]⟩
  | x :: l, ks, h => by
    have ih := keysS_ok (l := l) (insKey_nodup (k := x.1) h)
    have := insKey_len (ks := ks) (k := x.1)
    simp only [keysS, List.length_cons]
    exact ⟨ih.1, by omega⟩
theorem perm_mem : ∀ {l l' : List Nat}, l.Nodup → l'.Nodup → (∀ a, a ∈ l ↔ a ∈ l') → l.Perm l'
  | [], l', _, _, h => by
    have : l' = [] := List.eq_nil_iff_forall_not_mem.2 fun a ha => by simpa using (h a).2 ha
    rw [this]
  | a :: r, l', h1, h2, h => by
    have ha : a ∈ l' := (h a).1 (by simp)
    have h1' := List.nodup_cons.1 h1
    refine (List.Perm.cons a (perm_mem h1'.2 (h2.erase a) fun b => ?_)).trans (List.perm_cons_erase ha).symm
    rw [h2.mem_erase_iff]
    constructor
    · intro hb
      exact ⟨by rintro rfl; exact h1'.1 hb, (h b).1 (by simp [hb])⟩
    · rintro ⟨hne, hb⟩
      rcases List.mem_cons.1 ((h b).2 hb) with q | q
      · exact absurd q hne
      · exact q
theorem seen_perm {a b : List (Int × Int)} {ks : List Int} {seen : List Nat} (h1 : seen.Nodup) (h2 : ∀ p ∈ seen, p < ks.length) (h3 : ∀ p, p < ks.length → p ∈ seen) : (seenO a b ks seen).Perm (ks.map (askP a b)) := by
  have hp : seen.Perm (List.range ks.length) := perm_mem h1 List.nodup_range fun p => ⟨fun h => List.mem_range.2 (h2 p h), fun h => h3 p (List.mem_range.1 h)⟩
  have e : (List.range ks.length).map (fun p => askP a b (ks.getD p 0)) = ks.map (askP a b) := by
    apply List.ext_getElem?
    intro j
    by_cases hj : j < ks.length
    · simp [List.getElem?_map, List.getElem?_range hj, hj]
    · rw [List.getElem?_eq_none (by simp; omega), List.getElem?_eq_none (by simp; omega)]
  rw [← e]
  exact hp.map _
theorem keys_tickNe {a b : List (Int × Int)} : ∀ {ks : List Int}, ks.Nodup → tickNe (ks.map (askP a b))
  | [], _ => by simp [tickNe]
  | k :: r, h => by
    have h' := List.nodup_cons.1 h
    refine List.pairwise_cons.2 ⟨fun y hy => ?_, keys_tickNe h'.2⟩
    obtain ⟨q, hq, rfl⟩ := List.mem_map.1 hy
    show k ≠ q
    rintro rfl
    exact h'.1 hq
theorem nodup_len : ∀ (n : Nat) {l : List Nat}, l.Nodup → (∀ p ∈ l, p < n) → l.length ≤ n
  | 0, l, _, h => by
    have : l = [] := List.eq_nil_iff_forall_not_mem.2 fun a ha => by have := h a ha; omega
    rw [this]; simp
  | n + 1, l, hn, h => by
    by_cases hm : n ∈ l
    · have ih := nodup_len n (hn.erase n) fun p hp => by
        have := (hn.mem_erase_iff).1 hp
        have h2 := h p this.2
        have := this.1
        omega
      rw [List.length_erase_of_mem hm] at ih
      omega
    · have ih := nodup_len n hn fun p hp => by
        have h2 := h p hp
        have : p ≠ n := by rintro rfl; exact hm hp
        omega
      omega
abbrev annMerged (a b : List (Int × Int)) : Nat → Option Ann := fun id =>
  if id = 0 then some { X := Nat, σ := fun k => ⟨4, [(0, .one (.sl 0)), (1, .one (.sl 1)), (7, .one (.sl 2)), (27, .one (.sl 3)), (28, .one (.int .i64 (a ++ b).length)), (29, .one (.int .i64 k))], [(0, .imm 172 sPt a), (1, .imm 172 sPt b), (2, .map (keysS ((a ++ b).take k) [])), (3, .own 172 sPt (a ++ b))]⟩, inv := fun k => k ≤ (a ++ b).length ∧ mergeE a b = 0, mu := fun k => (a ++ b).length - k }
  else if id = 2 then some { X := List Nat, σ := fun seen => ⟨5, [(0, .one (.sl 0)), (1, .one (.sl 1)), (10, .one (.sl 4)), (38, .one (.sl 3))], [(0, .imm 172 sPt a), (1, .imm 172 sPt b), (2, .map (mergeK a b)), (3, .iter 2 (mergeK a b) seen), (4, .own 172 sPt (seenO a b (mergeK a b) seen))]⟩, inv := fun seen => seen.Nodup ∧ (∀ p ∈ seen, p < (mergeK a b).length) ∧ mergeE a b = 0, mu := fun seen => (mergeK a b).length - seen.length }
  else none
theorem vc53 : ∀ (a b : List (Int × Int)), wpF Tryz.prog G131 (annMerged a b) Tryz.f53 cMerged (a, b, ()) = ((2 : Nat) ≤ (1000000 : Nat) ∧ ((firstS [ordersS a, ordersS b] != (0 : Int)) = true → [] = (mergedF a b).fst ∧ firstS [ordersS a, ordersS b] = (mergedF a b).snd) ∧ ((firstS [ordersS a, ordersS b] != (0 : Int)) = false → ((2 : Nat) ≤ (1000 : Nat) ∧ ∀ (x : List (Int × Int)), x ∈ [a, b] → List.length x ≤ (1000 : Nat)) ∧ ∃ (x : Nat), ((↑(List.length (List.flatten [a, b])) : Int) = (↑(List.length (a ++ b)) : Int) ∧ (0 : Int) = (↑x : Int) ∧ a = a ∧ b = b ∧ [] = keysS (List.take x (a ++ b)) [] ∧ a ++ List.flatten [b] = a ++ b) ∧ (x ≤ List.length (a ++ b) ∧ mergeE a b = (0 : Int)) ∧ ∀ (x : Nat), x ≤ List.length (a ++ b) ∧ mergeE a b = (0 : Int) → (decide ((↑x : Int) < (↑(List.length (a ++ b)) : Int)) = true → (((0 : Int) ≤ (↑x : Int) ∧ (↑x : Int) < (↑(List.length (a ++ b)) : Int)) ∧ (0 : Int) ≤ (↑x : Int) ∧ (↑x : Int) < (↑(List.length (a ++ b)) : Int)) ∧ ((-9223372036854775808 : Int) ≤ (↑x : Int) + (1 : Int) ∧ (↑x : Int) + (1 : Int) ≤ (9223372036854775807 : Int)) ∧ ∃ (y : Nat), ((↑(List.length (a ++ b)) : Int) = (↑(List.length (a ++ b)) : Int) ∧ (↑x : Int) + (1 : Int) = (↑y : Int) ∧ a = a ∧ b = b ∧ (match List.contains (keysS (List.take x (a ++ b)) []) (List.getD (a ++ b) x ((0 : Int), (0 : Int))).fst with | true => keysS (List.take x (a ++ b)) [] | false => keysS (List.take x (a ++ b)) [] ++ [(List.getD (a ++ b) x ((0 : Int), (0 : Int))).fst]) = keysS (List.take y (a ++ b)) [] ∧ a ++ b = a ++ b) ∧ (y ≤ List.length (a ++ b) ∧ mergeE a b = (0 : Int)) ∧ List.length (a ++ b) - y < List.length (a ++ b) - x) ∧ (decide ((↑x : Int) < (↑(List.length (a ++ b)) : Int)) = false → ∃ (x_1 : List Nat), (a = a ∧ b = b ∧ keysS (List.take x (a ++ b)) [] = mergeK a b ∧ keysS (List.take x (a ++ b)) [] = mergeK a b ∧ [] = x_1 ∧ List.length (seenO a b (mergeK a b) x_1) = (0 : Nat)) ∧ (List.Nodup x_1 ∧ (∀ (p : Nat), p ∈ x_1 → p < List.length (mergeK a b)) ∧ mergeE a b = (0 : Int)) ∧ ∀ (x : List Nat), List.Nodup x ∧ (∀ (p : Nat), p ∈ x → p < List.length (mergeK a b)) ∧ mergeE a b = (0 : Int) → mergeK a b = mergeK a b ∧ (∀ (p : Nat), p < List.length (mergeK a b) → (p ∈ x → False) → (true = true → (mergeK a b = mergeK a b ∧ (x ++ [p] = [] → False) ∧ List.getLastD (x ++ [p]) (0 : Nat) < List.length (mergeK a b)) ∧ (List.length a ≤ (1000000 : Nat) ∧ List.length b ≤ (1000000 : Nat) ∧ ((-9223372036854775808 : Int) ≤ askedS a (List.getD (mergeK a b) (List.getLastD (x ++ [p]) (0 : Nat)) (0 : Int)) + askedS b (List.getD (mergeK a b) (List.getLastD (x ++ [p]) (0 : Nat)) (0 : Int)) ∧ askedS a (List.getD (mergeK a b) (List.getLastD (x ++ [p]) (0 : Nat)) (0 : Int)) + askedS b (List.getD (mergeK a b) (List.getLastD (x ++ [p]) (0 : Nat)) (0 : Int)) ≤ (9223372036854775807 : Int)) ∧ (List.length (seenO a b (mergeK a b) x) + (1 : Nat)) * (16 : Nat) ≤ (140737488355328 : Nat)) ∧ ∃ (y : List Nat), (a = a ∧ b = b ∧ mergeK a b = mergeK a b ∧ mergeK a b = mergeK a b ∧ x ++ [p] = y ∧ seenO a b (mergeK a b) x ++ [(List.getD (mergeK a b) (List.getLastD (x ++ [p]) (0 : Nat)) (0 : Int), askedS a (List.getD (mergeK a b) (List.getLastD (x ++ [p]) (0 : Nat)) (0 : Int)) + askedS b (List.getD (mergeK a b) (List.getLastD (x ++ [p]) (0 : Nat)) (0 : Int)))] = seenO a b (mergeK a b) y) ∧ (List.Nodup y ∧ (∀ (p : Nat), p ∈ y → p < List.length (mergeK a b)) ∧ mergeE a b = (0 : Int)) ∧ List.length (mergeK a b) - List.length y < List.length (mergeK a b) - List.length x) ∧ (true = false → (tickNe (seenO a b (mergeK a b) x) ∧ List.length (seenO a b (mergeK a b) x) ≤ (1000000 : Nat)) ∧ (List.length (isortT (seenO a b (mergeK a b) x)) ≤ (1000000 : Nat) ∧ ∀ (x_2 : Int × Int), x_2 ∈ isortT (seenO a b (mergeK a b) x) → True) ∧ (2 : Nat) ≤ (1000000 : Nat) ∧ ((firstS [bif decide ((32 : Int) < (↑(List.length (isortT (seenO a b (mergeK a b) x))) : Int)) then (5 : Int) else (0 : Int), bif decide ((0 : Int) ≤ idxS (fun (x : Int × Int) => match withinS x.snd (-1000 : Int) (1000 : Int) == (0 : Int) with | true => false | false => true) (isortT (seenO a b (mergeK a b) x)) (0 : Int)) then (4 : Int) else (0 : Int)] != (0 : Int)) = true → [] = (mergedF a b).fst ∧ firstS [bif decide ((32 : Int) < (↑(List.length (isortT (seenO a b (mergeK a b) x))) : Int)) then (5 : Int) else (0 : Int), bif decide ((0 : Int) ≤ idxS (fun (x : Int × Int) => match withinS x.snd (-1000 : Int) (1000 : Int) == (0 : Int) with | true => false | false => true) (isortT (seenO a b (mergeK a b) x)) (0 : Int)) then (4 : Int) else (0 : Int)] = (mergedF a b).snd) ∧ ((firstS [bif decide ((32 : Int) < (↑(List.length (isortT (seenO a b (mergeK a b) x))) : Int)) then (5 : Int) else (0 : Int), bif decide ((0 : Int) ≤ idxS (fun (x : Int × Int) => match withinS x.snd (-1000 : Int) (1000 : Int) == (0 : Int) with | true => false | false => true) (isortT (seenO a b (mergeK a b) x)) (0 : Int)) then (4 : Int) else (0 : Int)] != (0 : Int)) = false → isortT (seenO a b (mergeK a b) x) = (mergedF a b).fst ∧ (0 : Int) = (mergedF a b).snd))) ∧ ((∀ (p : Nat), p < List.length (mergeK a b) → p ∈ x) → (false = true → (mergeK a b = mergeK a b ∧ (x = [] → False) ∧ List.getLastD x (0 : Nat) < List.length (mergeK a b)) ∧ (List.length a ≤ (1000000 : Nat) ∧ List.length b ≤ (1000000 : Nat) ∧ ((-9223372036854775808 : Int) ≤ askedS a (List.getD (mergeK a b) (List.getLastD x (0 : Nat)) (0 : Int)) + askedS b (List.getD (mergeK a b) (List.getLastD x (0 : Nat)) (0 : Int)) ∧ askedS a (List.getD (mergeK a b) (List.getLastD x (0 : Nat)) (0 : Int)) + askedS b (List.getD (mergeK a b) (List.getLastD x (0 : Nat)) (0 : Int)) ≤ (9223372036854775807 : Int)) ∧ (List.length (seenO a b (mergeK a b) x) + (1 : Nat)) * (16 : Nat) ≤ (140737488355328 : Nat)) ∧ ∃ (y : List Nat), (a = a ∧ b = b ∧ mergeK a b = mergeK a b ∧ mergeK a b = mergeK a b ∧ x = y ∧ seenO a b (mergeK a b) x ++ [(List.getD (mergeK a b) (List.getLastD x (0 : Nat)) (0 : Int), askedS a (List.getD (mergeK a b) (List.getLastD x (0 : Nat)) (0 : Int)) + askedS b (List.getD (mergeK a b) (List.getLastD x (0 : Nat)) (0 : Int)))] = seenO a b (mergeK a b) y) ∧ (List.Nodup y ∧ (∀ (p : Nat), p ∈ y → p < List.length (mergeK a b)) ∧ mergeE a b = (0 : Int)) ∧ List.length (mergeK a b) - List.length y < List.length (mergeK a b) - List.length x) ∧ (false = false → (tickNe (seenO a b (mergeK a b) x) ∧ List.length (seenO a b (mergeK a b) x) ≤ (1000000 : Nat)) ∧ (List.length (isortT (seenO a b (mergeK a b) x)) ≤ (1000000 : Nat) ∧ ∀ (x_2 : Int × Int), x_2 ∈ isortT (seenO a b (mergeK a b) x) → True) ∧ (2 : Nat) ≤ (1000000 : Nat) ∧ ((firstS [bif decide ((32 : Int) < (↑(List.length (isortT (seenO a b (mergeK a b) x))) : Int)) then (5 : Int) else (0 : Int), bif decide ((0 : Int) ≤ idxS (fun (x : Int × Int) => match withinS x.snd (-1000 : Int) (1000 : Int) == (0 : Int) with | true => false | false => true) (isortT (seenO a b (mergeK a b) x)) (0 : Int)) then (4 : Int) else (0 : Int)] != (0 : Int)) = true → [] = (mergedF a b).fst ∧ firstS [bif decide ((32 : Int) < (↑(List.length (isortT (seenO a b (mergeK a b) x))) : Int)) then (5 : Int) else (0 : Int), bif decide ((0 : Int) ≤ idxS (fun (x : Int × Int) => match withinS x.snd (-1000 : Int) (1000 : Int) == (0 : Int) with | true => false | false => true) (isortT (seenO a b (mergeK a b) x)) (0 : Int)) then (4 : Int) else (0 : Int)] = (mergedF a b).snd) ∧ ((firstS [bif decide ((32 : Int) < (↑(List.length (isortT (seenO a b (mergeK a b) x))) : Int)) then (5 : Int) else (0 : Int), bif decide ((0 : Int) ≤ idxS (fun (x : Int × Int) => match withinS x.snd (-1000 : Int) (1000 : Int) == (0 : Int) with | true => false | false => true) (isortT (seenO a b (mergeK a b) x)) (0 : Int)) then (4 : Int) else (0 : Int)] != (0 : Int)) = false → isortT (seenO a b (mergeK a b) x) = (mergedF a b).fst ∧ (0 : Int) = (mergedF a b).snd)))))) := by
  intros
  kernel_rfl
theorem wp53 (a b : List (Int × Int)) : wpF Tryz.prog G131 (annMerged a b) Tryz.f53 cMerged (a, b, ()) := by
  refine (vc53 a b).mpr ?_
  have hE : firstS [ordersS a, ordersS b] = mergeE a b := rfl
  rw [hE]
  refine ⟨by omega, fun h => ?_, fun h => ?_⟩
  · have h0 := bne_iff_ne.1 h
    simp [mergedF, h0]
  · have h0 := bne_eq_false_iff_eq.1 h
    have h0' := h0
    unfold mergeE at h0'
    rw [firstS_zero, firstS_zero] at h0'
    have la := orders_len h0'.1
    have lb := orders_len h0'.2.1
    have oa := orders_all h0'.1
    have ob := orders_all h0'.2.1
    have hk := keysS_ok (l := a ++ b) (ks := []) List.nodup_nil
    have hkn : (mergeK a b).Nodup := hk.1
    have hkl : (mergeK a b).length ≤ 64 := by
      have := hk.2
      simp only [List.length_append, List.length_nil] at this
      show (keysS (a ++ b) []).length ≤ 64
      omega
    have hab : (a ++ b).length = a.length + b.length := List.length_append
    have e1 : [a, b].flatten = a ++ b := by simp
    refine ⟨⟨by omega, fun x hx => ?_⟩, (0 : Nat), by simp [keysS], ⟨Nat.zero_le _, h0⟩, fun (k : Nat) hk => ⟨fun h => ?_, fun h => ?_⟩⟩
    · have : x = a ∨ x = b := by simpa using hx
      rcases this with rfl | rfl <;> omega
    · have hlt : k < (a ++ b).length := by have := of_decide_eq_true h; omega
      refine ⟨⟨⟨by omega, by omega⟩, by omega, by omega⟩, ⟨by omega, by omega⟩, (k + 1 : Nat), ⟨rfl, by simp, rfl, rfl, ?_, rfl⟩, ⟨by omega, h0⟩, by omega⟩
      rw [← take_snoc (d := (0, 0)) hlt, keysS_snoc]
      rfl
    · have hlt : ¬ k < (a ++ b).length := by have := of_decide_eq_false h; omega
      have ek : keysS ((a ++ b).take k) [] = mergeK a b := by rw [List.take_of_length_le (by omega)]; rfl
      rw [ek]
      refine ⟨[], ⟨rfl, rfl, rfl, rfl, rfl, rfl⟩, ⟨List.nodup_nil, fun p hp => by simp at hp, h0⟩, fun (seen : List Nat) hs => ⟨rfl, fun p hp hps => ⟨fun _ => ?_, fun h => (by cases h)⟩, fun hall => ⟨fun h => (by cases h), fun _ => ?_⟩⟩⟩
      · obtain ⟨s1, s2, _⟩ := hs
        have hl : (seen ++ [p]).getLastD 0 = p := by simp [List.getLastD_eq_getLast?]
        have hn : (seen ++ [p]).Nodup := List.nodup_append.2 ⟨s1, by simp, fun x hx y hy => by
          have : y = p := by simpa using hy
          subst this
          rintro rfl
          exact hps hx⟩
        have ha : ∀ q ∈ seen ++ [p], q < (mergeK a b).length := fun q hq => by
          rcases List.mem_append.1 hq with hq | hq
          · exact s2 q hq
          · have : q = p := by simpa using hq
            subst this; exact hp
        have hlen := nodup_len _ hn ha
        rw [List.length_append] at hlen
        have hlen : seen.length + 1 ≤ (mergeK a b).length := hlen
        have hsl : (seenO a b (mergeK a b) seen).length = seen.length := by simp [seenO]
        have b1 := asked_bd (t := (mergeK a b).getD p 0) (l := a) (p := 0) (fun x hx => (oa x hx).2) ⟨by decide, by decide⟩
        have b2 := asked_bd (t := (mergeK a b).getD p 0) (l := b) (p := 0) (fun x hx => (ob x hx).2) ⟨by decide, by decide⟩
        have q1 : askedS a ((mergeK a b).getD p 0) = askedGo ((mergeK a b).getD p 0) a 0 := rfl
        have q2 : askedS b ((mergeK a b).getD p 0) = askedGo ((mergeK a b).getD p 0) b 0 := rfl
        rw [hl, hsl]
        refine ⟨⟨rfl, by simp, hp⟩, ⟨by omega, by omega, ⟨by omega, by omega⟩, by omega⟩, seen ++ [p], ⟨rfl, rfl, rfl, rfl, rfl, ?_⟩, ⟨hn, ha, h0⟩, by rw [List.length_append]; simp; omega⟩
        simp only [seenO, List.map_append, List.map_cons, List.map_nil]
        rfl
      · obtain ⟨s1, s2, _⟩ := hs
        have hp := seen_perm (a := a) (b := b) s1 s2 hall
        have ht : tickNe (seenO a b (mergeK a b) seen) := tickNe_perm hp.symm (keys_tickNe hkn)
        have hO : isortT (seenO a b (mergeK a b) seen) = mergeO a b := isort_same hp ht
        have hl : (mergeO a b).length = (mergeK a b).length := by
          show (isortT _).length = _
          rw [(isort_perm _).length_eq, List.length_map]
        have hsl : (seenO a b (mergeK a b) seen).length = (mergeK a b).length := by rw [hp.length_eq, List.length_map]
        rw [hO]
        change _ ∧ _ ∧ _ ∧ ((mergeE2 a b != 0) = true → [] = (mergedF a b).1 ∧ mergeE2 a b = (mergedF a b).2) ∧ ((mergeE2 a b != 0) = false → mergeO a b = (mergedF a b).1 ∧ 0 = (mergedF a b).2)
        refine ⟨⟨ht, by omega⟩, ⟨by omega, fun _ _ => trivial⟩, by omega, fun h => ?_, fun h => ?_⟩
        · have h1 := bne_iff_ne.1 h
          simp [mergedF, h0, h1]
        · have h1 := bne_eq_false_iff_eq.1 h
          simp [mergedF, h0, h1]
theorem ok53 : Ok Tryz.prog 53 cMerged := ok_of_wp mixed g131 (by kernel_rfl) (by kernel_rfl) (fun xx => annMerged xx.1 xx.2.1) fun xx => wp53 xx.1 xx.2.1
abbrev G132 : Gam := (53, cMerged) :: G131
theorem g132 : GamOk Tryz.prog G132 := .cons ok53 g131
end Go.Proofs.YtacaadhlobbemaaGreatDoor
namespace Go.Proofs.YtacaadhlobbemaaGreatDoor
open Go.Sx
def riseT (l : List (Int × Int)) : Prop := l.Pairwise fun x y => x.1 < y.1
theorem orders_rise_go : ∀ {l : List (Int × Int)} {t : Int}, ordersGo l t = 0 → riseT l ∧ ∀ x ∈ l, t < x.1
  | [], _, _ => ⟨List.Pairwise.nil, by simp⟩
  | x :: r, t, h => by
    unfold ordersGo at h
    by_cases h0 : firstS [withinS x.1 0 100000, withinS x.2 (-1000) 1000, bif decide (x.1 ≤ t) then 11 else 0] = 0
    · simp only [h0, ne_eq, not_true, if_false] at h
      have ih := orders_rise_go h
      rw [firstS_zero, firstS_zero, firstS_zero] at h0
      have ht : t < x.1 := by
        by_cases hx : x.1 ≤ t
        · have := h0.2.2.1
          rw [decide_eq_true hx] at this
          simp at this
        · omega
      refine ⟨List.pairwise_cons.2 ⟨ih.2, ih.1⟩, fun y hy => ?_⟩
      rcases List.mem_cons.1 hy with rfl | hy
      · exact ht
      · exact Int.lt_trans ht (ih.2 y hy)
    · simp only [ne_eq, h0, not_false_eq_true, if_true] at h
theorem orders_rise {l : List (Int × Int)} (h : ordersS l = 0) : riseT l := by
  unfold ordersS at h
  split at h
  · simp at h
  · exact (orders_rise_go h).1
theorem mergeT_mem {t : Int} : ∀ {f : Nat} {a b : List (Int × Int)}, a.length + b.length ≤ f → (t ∈ mergeT f a b ↔ t ∈ a.map (·.1) ∨ t ∈ b.map (·.1))
  | 0, a, b, h => by
    have ha : a = [] := List.eq_nil_of_length_eq_zero (by omega)
    have hb : b = [] := List.eq_nil_of_length_eq_zero (by omega)
    subst ha; subst hb
    simp [mergeT]
  | f + 1, [], [], _ => by simp [mergeT]
  | f + 1, x :: a, [], h => by
    have ih := mergeT_mem (t := t) (f := f) (a := a) (b := []) (by simp at h ⊢; omega)
    simp only [mergeT, List.mem_cons, ih, List.map_cons]
    simp
  | f + 1, [], y :: b, h => by
    have ih := mergeT_mem (t := t) (f := f) (a := []) (b := b) (by simp at h ⊢; omega)
    simp only [mergeT, List.mem_cons, ih, List.map_cons]
    simp
  | f + 1, x :: a, y :: b, h => by
    simp only [List.length_cons] at h
    have i1 := mergeT_mem (t := t) (f := f) (a := a) (b := y :: b) (by simp only [List.length_cons]; omega)
    have i2 := mergeT_mem (t := t) (f := f) (a := x :: a) (b := b) (by simp only [List.length_cons]; omega)
    have i3 := mergeT_mem (t := t) (f := f) (a := a) (b := b) (by omega)
    simp only [mergeT]
    split
    · rw [List.mem_cons, i1]
      simp only [List.map_cons, List.mem_cons]
      exact or_assoc.symm
    · split
      · rw [List.mem_cons, i2]
        simp only [List.map_cons, List.mem_cons]
        constructor
        · rintro (h | h | h)
          · exact .inr (.inl h)
          · exact .inl h
          · exact .inr (.inr h)
        · rintro (h | h | h)
          · exact .inr (.inl h)
          · exact .inl h
          · exact .inr (.inr h)
      · rename_i h1 h2
        have e : x.1 = y.1 := by omega
        rw [List.mem_cons, i3]
        simp only [List.map_cons, List.mem_cons, ← e]
        constructor
        · rintro (h | h | h)
          · exact .inl (.inl h)
          · exact .inl (.inr h)
          · exact .inr (.inr h)
        · rintro ((h | h) | h | h)
          · exact .inl h
          · exact .inr (.inl h)
          · exact .inl h
          · exact .inr (.inr h)
theorem mergeT_rise : ∀ {f : Nat} {a b : List (Int × Int)}, a.length + b.length ≤ f → riseT a → riseT b → (mergeT f a b).Pairwise (· < ·)
  | 0, a, b, h, _, _ => by simp [mergeT]
  | f + 1, [], [], _, _, _ => by simp [mergeT]
  | f + 1, x :: a, [], h, ha, hb => by
    have hl : a.length + ([] : List (Int × Int)).length ≤ f := by simp at h ⊢; omega
    have ha' := List.pairwise_cons.1 ha
    simp only [mergeT]
    refine List.pairwise_cons.2 ⟨fun t ht => ?_, mergeT_rise hl ha'.2 hb⟩
    rcases (mergeT_mem hl).1 ht with h | h
    · obtain ⟨z, hz, rfl⟩ := List.mem_map.1 h
      exact ha'.1 z hz
    · simp at h
  | f + 1, [], y :: b, h, ha, hb => by
    have hl : ([] : List (Int × Int)).length + b.length ≤ f := by simp at h ⊢; omega
    have hb' := List.pairwise_cons.1 hb
    simp only [mergeT]
    refine List.pairwise_cons.2 ⟨fun t ht => ?_, mergeT_rise hl ha hb'.2⟩
    rcases (mergeT_mem hl).1 ht with h | h
    · simp at h
    · obtain ⟨z, hz, rfl⟩ := List.mem_map.1 h
      exact hb'.1 z hz
  | f + 1, x :: a, y :: b, h, ha, hb => by
    simp only [List.length_cons] at h
    have ha' := List.pairwise_cons.1 ha
    have hb' := List.pairwise_cons.1 hb
    simp only [mergeT]
    split
    · rename_i hxy
      have hl : a.length + (y :: b).length ≤ f := by simp only [List.length_cons]; omega
      refine List.pairwise_cons.2 ⟨fun t ht => ?_, mergeT_rise hl ha'.2 hb⟩
      rcases (mergeT_mem hl).1 ht with h | h
      · obtain ⟨z, hz, rfl⟩ := List.mem_map.1 h
        exact ha'.1 z hz
      · obtain ⟨z, hz, rfl⟩ := List.mem_map.1 h
        rcases List.mem_cons.1 hz with rfl | hz
        · exact hxy
        · exact Int.lt_trans hxy (hb'.1 z hz)
    · split
      · rename_i hxy
        have hl : (x :: a).length + b.length ≤ f := by simp only [List.length_cons]; omega
        refine List.pairwise_cons.2 ⟨fun t ht => ?_, mergeT_rise hl ha hb'.2⟩
        rcases (mergeT_mem hl).1 ht with h | h
        · obtain ⟨z, hz, rfl⟩ := List.mem_map.1 h
          rcases List.mem_cons.1 hz with rfl | hz
          · exact hxy
          · exact Int.lt_trans hxy (ha'.1 z hz)
        · obtain ⟨z, hz, rfl⟩ := List.mem_map.1 h
          exact hb'.1 z hz
      · rename_i h1 h2
        have e : x.1 = y.1 := by omega
        have hl : a.length + b.length ≤ f := by omega
        refine List.pairwise_cons.2 ⟨fun t ht => ?_, mergeT_rise hl ha'.2 hb'.2⟩
        rcases (mergeT_mem hl).1 ht with h | h
        · obtain ⟨z, hz, rfl⟩ := List.mem_map.1 h
          exact ha'.1 z hz
        · obtain ⟨z, hz, rfl⟩ := List.mem_map.1 h
          rw [e]
          exact hb'.1 z hz
theorem insKey_mem {ks : List Int} {k t : Int} : t ∈ insKey ks k ↔ t = k ∨ t ∈ ks := by
  unfold insKey
  cases h : ks.contains k with
  | true =>
    have hk : k ∈ ks := by simpa using h
    simp only [cond_true]
    constructor
    · exact .inr
    · rintro (rfl | h)
      · exact hk
      · exact h
  | false =>
    simp only [cond_false, List.mem_append, List.mem_singleton]
    exact or_comm
theorem keysS_mem {t : Int} : ∀ {l : List (Int × Int)} {ks : List Int}, t ∈ keysS l ks ↔ t ∈ ks ∨ t ∈ l.map (·.1)
  | [], ks => by simp [keysS]
  | x :: r, ks => by
    simp only [keysS, List.map_cons, List.mem_cons]
    rw [keysS_mem, insKey_mem]
    constructor
    · rintro ((h | h) | h)
      · exact .inr (.inl h)
      · exact .inl h
      · exact .inr (.inr h)
    · rintro (h | h | h)
      · exact .inl (.inr h)
      · exact .inl (.inl h)
      · exact .inr h
theorem perm_int : ∀ {l l' : List Int}, l.Nodup → l'.Nodup → (∀ a, a ∈ l ↔ a ∈ l') → l.Perm l'
  | [], l', _, _, h => by
    have : l' = [] := List.eq_nil_iff_forall_not_mem.2 fun a ha => by have := (h a).2 ha; simp at this
    rw [this]
  | a :: l, l', hn, hn', h => by
    have ha : a ∈ l' := (h a).1 (by simp)
    have hp := List.perm_cons_erase ha
    obtain ⟨ha1, hn1⟩ := List.nodup_cons.1 hn
    refine List.Perm.trans (List.Perm.cons a (perm_int hn1 (hn'.erase a) fun b => ?_)) hp.symm
    rw [hn'.mem_erase_iff]
    constructor
    · intro hb
      exact ⟨fun e => ha1 (e ▸ hb), (h b).1 (by simp [hb])⟩
    · rintro ⟨hne, hb⟩
      rcases List.mem_cons.1 ((h b).2 hb) with rfl | hb
      · exact absurd rfl hne
      · exact hb
theorem mergeO_eq {a b : List (Int × Int)} (ha : riseT a) (hb : riseT b) : mergeO a b = (rTicks a b).map (askP a b) := by
  have hr := mergeT_rise (Nat.le_refl (a.length + b.length)) ha hb
  have hk := (keysS_ok (l := a ++ b) (ks := []) List.nodup_nil).1
  have hp : (mergeK a b).Perm (rTicks a b) := perm_int hk (hr.imp fun h => Int.ne_of_lt h) fun t => by
    rw [show mergeK a b = keysS (a ++ b) [] from rfl, keysS_mem]
    unfold rTicks
    rw [mergeT_mem (Nat.le_refl _)]
    simp
  have hp2 := hp.map (askP a b)
  refine strict_unique ((isort_perm _).trans hp2) (isort_sorted (keys_tickNe hk)) ?_
  refine List.pairwise_map.2 ?_
  exact hr
theorem idx_first {α : Type} {g : α → Int} : ∀ {l : List α} {k : Nat}, 0 ≤ idxS (fun x => g x != 0) l k ↔ firstS (l.map g) ≠ 0
  | [], k => by simp [idxS, firstS]
  | x :: r, k => by
    have ih := idx_first (g := g) (l := r) (k := k + 1)
    simp only [idxS, List.map_cons, firstS]
    by_cases h : g x = 0
    · simp only [h, bne_self_eq_false, Bool.false_eq_true, if_false, if_true]
      exact ih
    · have : (g x != 0) = true := bne_iff_ne.2 h
      simp only [this, if_true, h, if_false, ne_eq, not_false_eq_true, iff_true]
      omega
theorem merged_eq {a b : List (Int × Int)} : mergedF a b = rMergedS a b := by
  unfold mergedF rMergedS
  by_cases h0 : mergeE a b = 0
  · simp only [h0, ne_eq, not_true, if_false]
    have h0' := h0
    unfold mergeE at h0'
    rw [firstS_zero, firstS_zero] at h0'
    have e := mergeO_eq (orders_rise h0'.1) (orders_rise h0'.2.1)
    have hi := idx_first (g := fun x : Int × Int => withinS x.2 (-1000) 1000) (l := (rTicks a b).map (askP a b)) (k := 0)
    rw [List.map_map] at hi
    have hE : firstS ((rTicks a b).map ((fun x : Int × Int => withinS x.2 (-1000) 1000) ∘ askP a b)) = rMergeE a b := rfl
    rw [hE] at hi
    unfold mergeE2
    rw [e, List.length_map]
    by_cases h1 : 32 < (rTicks a b).length
    · have : decide (32 < ((rTicks a b).length : Int)) = true := decide_eq_true (by omega)
      simp [firstS, this, h1]
    · have : decide (32 < ((rTicks a b).length : Int)) = false := decide_eq_false (by omega)
      simp only [this, cond_false, h1, if_false]
      by_cases h2 : rMergeE a b = 0
      · have h3 : decide (0 ≤ idxS (fun x : Int × Int => withinS x.2 (-1000) 1000 != 0) ((rTicks a b).map (askP a b)) 0) = false := decide_eq_false fun h => hi.1 h h2
        rw [h3]
        simp [firstS, h2]
      · have h3 : decide (0 ≤ idxS (fun x : Int × Int => withinS x.2 (-1000) 1000 != 0) ((rTicks a b).map (askP a b)) 0) = true := decide_eq_true (hi.2 h2)
        rw [h3]
        simp [firstS, h2]
  · simp [h0]
theorem merged_len {a b : List (Int × Int)} : (mergedF a b).1.length ≤ 1000000 := by
  rw [merged_eq]
  unfold rMergedS
  split
  · simp
  · split
    · simp
    · split
      · simp
      · simp only [List.length_map]; omega
end Go.Proofs.YtacaadhlobbemaaGreatDoor
namespace Go.Proofs.YtacaadhlobbemaaGreatDoor
open Go.Sx
set_option maxHeartbeats 20000000
def cAwake : Con := { args := [], ress := [Bo], owns := [], pre := fun _ => [], spec := fun _ => (true, ()) }
theorem vc16 : wpF Tryz.prog G132 (na ()) Tryz.f16 cAwake () = ((2 : Nat) ≤ (1000000 : Nat) ∧ (2 : Nat) ≤ (1000000 : Nat) ∧ (2 : Nat) ≤ (1000000 : Nat) ∧ (2 : Nat) ≤ (1000000 : Nat) ∧ (((-9223372036854775808 : Int) ≤ (xAtS firstL (25 : Int)).snd + (xCrossS [firstL, secondL] (0 : Int)).snd ∧ (xAtS firstL (25 : Int)).snd + (xCrossS [firstL, secondL] (0 : Int)).snd ≤ (9223372036854775807 : Int)) ∧ ((-9223372036854775808 : Int) ≤ (xAtS firstL (25 : Int)).snd + (xCrossS [firstL, secondL] (0 : Int)).snd + (xShareS [firstL, secondL] (0 : Int)).snd ∧ (xAtS firstL (25 : Int)).snd + (xCrossS [firstL, secondL] (0 : Int)).snd + (xShareS [firstL, secondL] (0 : Int)).snd ≤ (9223372036854775807 : Int)) ∧ ((-9223372036854775808 : Int) ≤ (xAtS firstL (25 : Int)).snd + (xCrossS [firstL, secondL] (0 : Int)).snd + (xShareS [firstL, secondL] (0 : Int)).snd + (xCrossS [firstL, secondL] (51 : Int)).snd ∧ (xAtS firstL (25 : Int)).snd + (xCrossS [firstL, secondL] (0 : Int)).snd + (xShareS [firstL, secondL] (0 : Int)).snd + (xCrossS [firstL, secondL] (51 : Int)).snd ≤ (9223372036854775807 : Int)) ∧ ((-9223372036854775808 : Int) ≤ (xAtS firstL (25 : Int)).snd + (xCrossS [firstL, secondL] (0 : Int)).snd + (xShareS [firstL, secondL] (0 : Int)).snd + (xCrossS [firstL, secondL] (51 : Int)).snd + (xShareS [firstL, secondL] (51 : Int)).snd ∧ (xAtS firstL (25 : Int)).snd + (xCrossS [firstL, secondL] (0 : Int)).snd + (xShareS [firstL, secondL] (0 : Int)).snd + (xCrossS [firstL, secondL] (51 : Int)).snd + (xShareS [firstL, secondL] (51 : Int)).snd ≤ (9223372036854775807 : Int)) ∧ ((-9223372036854775808 : Int) ≤ (xAtS firstL (25 : Int)).snd + (xCrossS [firstL, secondL] (0 : Int)).snd + (xShareS [firstL, secondL] (0 : Int)).snd + (xCrossS [firstL, secondL] (51 : Int)).snd + (xShareS [firstL, secondL] (51 : Int)).snd + (movedF firstL (10 : Int)).snd ∧ (xAtS firstL (25 : Int)).snd + (xCrossS [firstL, secondL] (0 : Int)).snd + (xShareS [firstL, secondL] (0 : Int)).snd + (xCrossS [firstL, secondL] (51 : Int)).snd + (xShareS [firstL, secondL] (51 : Int)).snd + (movedF firstL (10 : Int)).snd ≤ (9223372036854775807 : Int)) ∧ (false = false → (2 : Nat) ≤ (1000000 : Nat)) ∧ (false = false → (2 : Nat) ≤ (1000000 : Nat)) ∧ (false = false → (2 : Nat) ≤ (1000000 : Nat)) ∧ (false = false → (2 : Nat) ≤ (1000000 : Nat))) ∧ (false = true → false = true) ∧ (false = false → (((-9223372036854775808 : Int) ≤ checkLossS ((1 : Int), (32 : Int), (256 : Int)) (64 : Int) + checkLossS ((1 : Int), (32 : Int), (256 : Int)) (32 : Int) ∧ checkLossS ((1 : Int), (32 : Int), (256 : Int)) (64 : Int) + checkLossS ((1 : Int), (32 : Int), (256 : Int)) (32 : Int) ≤ (9223372036854775807 : Int)) ∧ (((-9223372036854775808 : Int) ≤ checkLossS ((1 : Int), (32 : Int), (256 : Int)) (64 : Int) + checkLossS ((1 : Int), (32 : Int), (256 : Int)) (32 : Int) + if checkLossS ((1 : Int), (32 : Int), (256 : Int)) (60 : Int) = (0 : Int) then match neededS ((1 : Int), (32 : Int), (256 : Int)) (60 : Int) with | some val => (0 : Int) | none => (7 : Int) else checkLossS ((1 : Int), (32 : Int), (256 : Int)) (60 : Int)) ∧ (checkLossS ((1 : Int), (32 : Int), (256 : Int)) (64 : Int) + checkLossS ((1 : Int), (32 : Int), (256 : Int)) (32 : Int) + if checkLossS ((1 : Int), (32 : Int), (256 : Int)) (60 : Int) = (0 : Int) then match neededS ((1 : Int), (32 : Int), (256 : Int)) (60 : Int) with | some val => (0 : Int) | none => (7 : Int) else checkLossS ((1 : Int), (32 : Int), (256 : Int)) (60 : Int)) ≤ (9223372036854775807 : Int)) ∧ ((-9223372036854775808 : Int) ≤ (checkLossS ((1 : Int), (32 : Int), (256 : Int)) (64 : Int) + checkLossS ((1 : Int), (32 : Int), (256 : Int)) (32 : Int) + if checkLossS ((1 : Int), (32 : Int), (256 : Int)) (60 : Int) = (0 : Int) then match neededS ((1 : Int), (32 : Int), (256 : Int)) (60 : Int) with | some val => (0 : Int) | none => (7 : Int) else checkLossS ((1 : Int), (32 : Int), (256 : Int)) (60 : Int)) + (balanceS ((1 : Int), (32 : Int), (256 : Int)) [(64 : Int), (32 : Int), (0 : Int)]).snd ∧ (checkLossS ((1 : Int), (32 : Int), (256 : Int)) (64 : Int) + checkLossS ((1 : Int), (32 : Int), (256 : Int)) (32 : Int) + if checkLossS ((1 : Int), (32 : Int), (256 : Int)) (60 : Int) = (0 : Int) then match neededS ((1 : Int), (32 : Int), (256 : Int)) (60 : Int) with | some val => (0 : Int) | none => (7 : Int) else checkLossS ((1 : Int), (32 : Int), (256 : Int)) (60 : Int)) + (balanceS ((1 : Int), (32 : Int), (256 : Int)) [(64 : Int), (32 : Int), (0 : Int)]).snd ≤ (9223372036854775807 : Int)) ∧ ((-9223372036854775808 : Int) ≤ (checkLossS ((1 : Int), (32 : Int), (256 : Int)) (64 : Int) + checkLossS ((1 : Int), (32 : Int), (256 : Int)) (32 : Int) + if checkLossS ((1 : Int), (32 : Int), (256 : Int)) (60 : Int) = (0 : Int) then match neededS ((1 : Int), (32 : Int), (256 : Int)) (60 : Int) with | some val => (0 : Int) | none => (7 : Int) else checkLossS ((1 : Int), (32 : Int), (256 : Int)) (60 : Int)) + (balanceS ((1 : Int), (32 : Int), (256 : Int)) [(64 : Int), (32 : Int), (0 : Int)]).snd + (mergedF marketL otherL).snd ∧ (checkLossS ((1 : Int), (32 : Int), (256 : Int)) (64 : Int) + checkLossS ((1 : Int), (32 : Int), (256 : Int)) (32 : Int) + if checkLossS ((1 : Int), (32 : Int), (256 : Int)) (60 : Int) = (0 : Int) then match neededS ((1 : Int), (32 : Int), (256 : Int)) (60 : Int) with | some val => (0 : Int) | none => (7 : Int) else checkLossS ((1 : Int), (32 : Int), (256 : Int)) (60 : Int)) + (balanceS ((1 : Int), (32 : Int), (256 : Int)) [(64 : Int), (32 : Int), (0 : Int)]).snd + (mergedF marketL otherL).snd ≤ (9223372036854775807 : Int)) ∧ (false = false → (3 : Nat) ≤ (1000000 : Nat)) ∧ (false = false → (3 : Nat) ≤ (1000000 : Nat))) ∧ (false = true → false = true) ∧ (false = false → (48 : Nat) ≤ (140737488355328 : Nat) ∧ (4 : Nat) ≤ (1000000 : Nat) ∧ (((-9223372036854775808 : Int) ≤ rampE ((4 : Int), (-50 : Int), (50 : Int)) (0 : Int) (twoL ++ [((15 : Int), (-5 : Int))]) + (xRampS ((4 : Int), (-50 : Int), (50 : Int)) (0 : Int) twoL (12 : Int)).snd ∧ rampE ((4 : Int), (-50 : Int), (50 : Int)) (0 : Int) (twoL ++ [((15 : Int), (-5 : Int))]) + (xRampS ((4 : Int), (-50 : Int), (50 : Int)) (0 : Int) twoL (12 : Int)).snd ≤ (9223372036854775807 : Int)) ∧ ((-9223372036854775808 : Int) ≤ rampE ((4 : Int), (-50 : Int), (50 : Int)) (0 : Int) (twoL ++ [((15 : Int), (-5 : Int))]) + (xRampS ((4 : Int), (-50 : Int), (50 : Int)) (0 : Int) twoL (12 : Int)).snd + (xLatestS ((4 : Int), (-50 : Int), (50 : Int)) (0 : Int) twoL (1 : Int)).snd ∧ rampE ((4 : Int), (-50 : Int), (50 : Int)) (0 : Int) (twoL ++ [((15 : Int), (-5 : Int))]) + (xRampS ((4 : Int), (-50 : Int), (50 : Int)) (0 : Int) twoL (12 : Int)).snd + (xLatestS ((4 : Int), (-50 : Int), (50 : Int)) (0 : Int) twoL (1 : Int)).snd ≤ (9223372036854775807 : Int)) ∧ ((-9223372036854775808 : Int) ≤ rampE ((4 : Int), (-50 : Int), (50 : Int)) (0 : Int) (twoL ++ [((15 : Int), (-5 : Int))]) + (xRampS ((4 : Int), (-50 : Int), (50 : Int)) (0 : Int) twoL (12 : Int)).snd + (xLatestS ((4 : Int), (-50 : Int), (50 : Int)) (0 : Int) twoL (1 : Int)).snd + (xRespS ((10 : Int), (512 : Int), (20 : Int)) [(30 : Int), (-100 : Int), (10 : Int), (13 : Int)]).snd ∧ rampE ((4 : Int), (-50 : Int), (50 : Int)) (0 : Int) (twoL ++ [((15 : Int), (-5 : Int))]) + (xRampS ((4 : Int), (-50 : Int), (50 : Int)) (0 : Int) twoL (12 : Int)).snd + (xLatestS ((4 : Int), (-50 : Int), (50 : Int)) (0 : Int) twoL (1 : Int)).snd + (xRespS ((10 : Int), (512 : Int), (20 : Int)) [(30 : Int), (-100 : Int), (10 : Int), (13 : Int)]).snd ≤ (9223372036854775807 : Int)) ∧ (false = false → (12 : Nat) ≤ (1000000 : Nat)) ∧ (false = false → (4 : Nat) ≤ (1000000 : Nat))) ∧ (false = true → false = true) ∧ (false = false → (((-9223372036854775808 : Int) ≤ (runF ((100 : Int), (200 : Int), (30 : Int), (20 : Int)) ((120 : Int), (50 : Int))).snd.snd + ordersS marketL ∧ (runF ((100 : Int), (200 : Int), (30 : Int), (20 : Int)) ((120 : Int), (50 : Int))).snd.snd + ordersS marketL ≤ (9223372036854775807 : Int)) ∧ (true = true → (5 : Nat) ≤ (1000000 : Nat)) ∧ (true = true → (5 : Nat) ≤ (1000000 : Nat))) ∧ true = true)))) := by
  intros
  kernel_rfl
theorem wp16  : wpF Tryz.prog G132 (na ()) Tryz.f16 cAwake () := by
  refine vc16.mpr ?_
  have e0 : (xAtS firstL 25).2 = 0 := by kernel_rfl
  have e1 : (xCrossS [firstL, secondL] 0).2 = 0 := by kernel_rfl
  have e2 : (xShareS [firstL, secondL] 0).2 = 0 := by kernel_rfl
  have e3 : (xCrossS [firstL, secondL] 51).2 = 0 := by kernel_rfl
  have e4 : (xShareS [firstL, secondL] 51).2 = 0 := by kernel_rfl
  have e5 : (movedF firstL 10).2 = 0 := by kernel_rfl
  have e6 : checkLossS (1, 32, 256) 64 = 0 := by kernel_rfl
  have e7 : checkLossS (1, 32, 256) 32 = 0 := by kernel_rfl
  have e8 : checkLossS (1, 32, 256) 60 = 0 := by kernel_rfl
  have e9 : neededS (1, 32, 256) 60 = some 64 := by kernel_rfl
  have e10 : (balanceS (1, 32, 256) [64, 32, 0]).2 = 0 := by kernel_rfl
  have e11 : (mergedF marketL otherL).2 = 0 := by kernel_rfl
  have e12 : rampE (4, -50, 50) 0 (twoL ++ [(15, -5)]) = 0 := by kernel_rfl
  have e13 : (xRampS (4, -50, 50) 0 twoL 12).2 = 0 := by kernel_rfl
  have e14 : (xLatestS (4, -50, 50) 0 twoL 1).2 = 0 := by kernel_rfl
  have e15 : (xRespS (10, 512, 20) [30, -100, 10, 13]).2 = 0 := by kernel_rfl
  have e16 : (runF (100, 200, 30, 20) (120, 50)).2.2 = 0 := by kernel_rfl
  have e17 : ordersS marketL = 0 := by kernel_rfl
  simp only [e0, e1, e2, e3, e4, e5, e6, e7, e8, e9, e10, e11, e12, e13, e14, e15, e16, e17]
  simp
theorem ok16 : Ok Tryz.prog 16 cAwake := ok_of_wp mixed g132 (by kernel_rfl) (by kernel_rfl) na fun xx => wp16 
abbrev G133 : Gam := (16, cAwake) :: G132
theorem g133 : GamOk Tryz.prog G133 := .cons ok16 g132
end Go.Proofs.YtacaadhlobbemaaGreatDoor
namespace Go.Proofs.YtacaadhlobbemaaGreatDoor
open Go.Sx
theorem rNeededGo_eq {x : Int × Int × Int} {p : Int} : ∀ {f : Nat} {n : Int}, rNeededGo x p n f = neededGo x p n f
  | 0, _ => rfl
  | f + 1, n => by
    simp only [rNeededGo, neededGo, rNeededGo_eq]
theorem needed_eq {x : Int × Int × Int} {p : Int} (h : lossOk x p) : neededS x p = rNeededS x p := by
  have key : ∀ k : Nat, (k : Int) ≤ p → rNeededGo x p 0 1001 = rNeededGo x p k (1001 - k) := by
    intro k
    induction k with
    | zero => intro _; rfl
    | succ k ih =>
      intro hk
      have h0 := ih (by omega)
      have hp := h.2.2.2
      have hok : lossOk x (k : Int) := ⟨h.1, h.2.1, h.2.2.1, by omega, by omega⟩
      have hb := (lossS_bd hok).2
      rw [h0, show 1001 - k = (1001 - (k + 1)) + 1 by omega, rNeededGo]
      rw [if_neg (by unfold deliveredS; simp only; omega)]
      rfl
  have hp := h.2.2.2
  have := key p.toNat (by omega)
  unfold rNeededS neededS
  rw [this, rNeededGo_eq, show ((p.toNat : Nat) : Int) = p by omega, show 1001 - p.toNat = (1001 - p).toNat by omega]
theorem balance_eq {x : Int × Int × Int} {l : List Int} : balanceS x l = if powersS x l = 0 then (balGo x l (0, 0), 0) else ((0, 0), powersS x l) := by
  unfold balanceS powersS
  by_cases h : lossesS x = 0
  · by_cases h2 : 256 < l.length
    · have e : decide (256 < (l.length : Int)) = true := decide_eq_true (by omega)
      simp [firstS, h, e, h2]
    · have e : decide (256 < (l.length : Int)) = false := decide_eq_false (by omega)
      simp only [firstS, h, e, h2, cond_false, if_true, ne_eq, not_true, if_false]
      by_cases h3 : firstS (l.map fun n => withinS n 0 1000) = 0
      · simp [h3]
      · simp [h3]
  · simp [firstS, h]
theorem powers_ok {x : Int × Int × Int} {l : List Int} (h : powersS x l = 0) : l.length ≤ 256 ∧ ∀ p ∈ l, lossOk x p := by
  unfold powersS at h
  split at h
  · rename_i h1; exact absurd h h1
  · rename_i h1
    split at h
    · simp at h
    · exact ⟨by omega, losses_all (by simpa using h1) h⟩
end Go.Proofs.YtacaadhlobbemaaGreatDoor
namespace Go.Proofs.YtacaadhlobbemaaGreatDoor
open Go.Sx
def twoS (x : Int × Int × Int) (y : Int × Int × Int) (l : List (Int × Int)) : Int := if ticksE x y.1 l y.2.1 = 0 then refE x y.1 l else ticksE x y.1 l y.2.1
def threeS (x : Int × Int × Int) (y : Int × Int × Int) (l : List (Int × Int)) : Int := if lateE x y.1 l y.2.2 = 0 then (if 0 ≤ refIdx x y.1 l ∧ refIdx x y.1 l ≤ y.2.2 then refE x y.1 l else 0) else lateE x y.1 l y.2.2
theorem steps_take : ∀ {l : List (Int × Int)} {q : Int × Int} {n : Nat}, stepsGo (l.take n) q = (stepsGo l q).take n
  | [], _, _ => by simp [stepsGo]
  | x :: r, q, 0 => by simp [stepsGo]
  | x :: r, q, n + 1 => by simp [stepsGo, steps_take]
theorem first_take {α : Type} {f : α → Int} : ∀ {l : List α} {n k : Nat}, firstS ((l.take n).map f) = if 0 ≤ idxS (fun x => f x != 0) l k ∧ idxS (fun x => f x != 0) l k < k + n then firstS (l.map f) else 0
  | [], n, k => by simp [firstS, idxS]
  | x :: r, 0, k => by
    have hb := idxS_bd (f := fun x => f x != 0) (l := x :: r) (k := k)
    rw [if_neg (by omega)]
    simp [firstS]
  | x :: r, n + 1, k => by
    have ih := first_take (f := f) (l := r) (n := n) (k := k + 1)
    simp only [List.take_succ_cons, List.map_cons, firstS, idxS]
    by_cases h : f x = 0
    · have : (f x != 0) = false := by simp [h]
      simp only [h, if_true, this, Bool.false_eq_true, if_false]
      rw [ih]
      have e : ((k + 1 : Nat) : Int) + n = k + ((n + 1 : Nat) : Int) := by omega
      rw [e]
      rfl
    · have : (f x != 0) = true := bne_iff_ne.2 h
      simp only [h, if_false, this, if_true]
      rw [if_pos (by omega)]
theorem ceil_eq {c r : Int} (hc : 0 ≤ c) (hr : 1 ≤ r) : 0 - (c + r - 1).tdiv r = (0 - c) / r := by
  rw [Int.tdiv_eq_ediv_of_nonneg (by omega)]
  have h1 := Int.mul_ediv_self_le (x := c + r - 1) (k := r) (by omega)
  have h2 := Int.lt_mul_ediv_self_add (x := c + r - 1) (k := r) (by omega)
  generalize hq : (c + r - 1) / r = q at *
  refine Eq.symm ?_
  have e : 0 - c = r * (0 - q) + (r * q - c) := by rw [Int.mul_sub, Int.mul_zero]; omega
  rw [e, Int.add_comm, Int.add_mul_ediv_left _ _ (by omega), Int.ediv_eq_zero_of_lt (by omega) (by omega)]
  omega
theorem late_eq {x y : Int × Int × Int} {l : List (Int × Int)} : xLatestS x y.1 l y.2.2 = if threeS x y l = 0 then ((stpS y.1 l y.2.2).1.1 + (0 - changeS (stpS y.1 l y.2.2)) / x.1, 0) else (0, threeS x y l) := by
  unfold xLatestS threeS
  by_cases h0 : lateE x y.1 l y.2.2 = 0
  · simp only [h0, ne_eq, not_true, if_false, if_true]
    have h0' := h0
    unfold lateE at h0'
    rw [firstS_zero, firstS_zero] at h0'
    obtain ⟨r1, r2, r3, r4, r5, r6⟩ := rampE_zero h0'.1
    have ho : 0 ≤ y.2.2 ∧ y.2.2 < l.length := by
      have := h0'.2.1
      by_cases h1 : y.2.2 < 0
      · simp [h1] at this
      · by_cases h2 : (l.length : Int) ≤ y.2.2
        · simp [h2] at this
        · omega
    have hT : refE x y.1 (l.take (y.2.2 + 1).toNat) = if 0 ≤ refIdx x y.1 l ∧ refIdx x y.1 l ≤ y.2.2 then refE x y.1 l else 0 := by
      have := first_take (f := refusedS x) (l := stepsS y.1 l) (n := (y.2.2 + 1).toNat) (k := 0)
      unfold refE stepsS
      rw [steps_take]
      unfold stepsS at this
      rw [this]
      have e : (((0 : Nat) : Int) + ((y.2.2 + 1).toNat : Int)) = y.2.2 + 1 := by omega
      rw [e]
      have er : idxS (fun s => refusedS x s != 0) (stepsGo l (0, y.1)) ((0 : Nat) : Int) = refIdx x y.1 l := rfl
      rw [er]
      by_cases hh : 0 ≤ refIdx x y.1 l ∧ refIdx x y.1 l ≤ y.2.2
      · rw [if_pos hh, if_pos (by omega)]
      · rw [if_neg hh, if_neg (by omega)]
    rw [hT]
    by_cases h3 : (if 0 ≤ refIdx x y.1 l ∧ refIdx x y.1 l ≤ y.2.2 then refE x y.1 l else 0) = 0
    · rw [if_pos h3]
      simp only [h3, ne_eq, not_true, if_false]
      have hs : (stepsS y.1 (l.take (y.2.2 + 1).toNat)).getD y.2.2.toNat ((0, 0), 0, 0) = stpS y.1 l y.2.2 := by
        unfold stpS stepsS
        rw [steps_take, List.getD_eq_getElem?_getD, List.getElem?_take, if_pos (by omega), ← List.getD_eq_getElem?_getD]
      rw [hs]
      obtain ⟨s1, s2, _, _⟩ := stp_ok h0'.1 ho
      have hc := ceil_eq (change_bd s1).1 s2.1.1
      rw [← hc]
      simp only [Prod.mk.injEq, and_true]
      omega
    · rw [if_neg h3]
      simp only [ne_eq, h3, not_false_eq_true, if_true]
  · simp [h0]
theorem ramp_eq {x y : Int × Int × Int} {l : List (Int × Int)} : xRampS x y.1 l y.2.1 = if twoS x y l = 0 then (rampL x y.1 l y.2.1.toNat, 0) else ([], twoS x y l) := by
  unfold xRampS twoS
  by_cases h0 : ticksE x y.1 l y.2.1 = 0
  · by_cases h1 : refE x y.1 l = 0
    · simp [h0, h1]
    · simp [h0, h1]
  · simp [h0]
theorem two_ok {x y : Int × Int × Int} {l : List (Int × Int)} (h : twoS x y l = 0) : rampE x y.1 l = 0 ∧ 1 ≤ y.2.1 ∧ y.2.1 ≤ 256 := by
  unfold twoS at h
  split at h
  · rename_i h0
    unfold ticksE at h0
    rw [firstS_zero, firstS_zero] at h0
    have := withinS_zero h0.2.1
    exact ⟨h0.1, this.1, this.2⟩
  · rename_i h0; exact absurd h h0
theorem three_ok {x y : Int × Int × Int} {l : List (Int × Int)} (h : threeS x y l = 0) : rampE x y.1 l = 0 ∧ 0 ≤ y.2.2 ∧ y.2.2 < l.length := by
  unfold threeS at h
  split at h
  · rename_i h0
    unfold lateE at h0
    rw [firstS_zero, firstS_zero] at h0
    refine ⟨h0.1, ?_⟩
    have := h0.2.1
    by_cases h1 : y.2.2 < 0
    · simp [h1] at this
    · by_cases h2 : (l.length : Int) ≤ y.2.2
      · simp [h2] at this
      · omega
  · rename_i h0; exact absurd h h0
end Go.Proofs.YtacaadhlobbemaaGreatDoor
namespace Go.Proofs.YtacaadhlobbemaaGreatDoor
open Go.Sx
theorem lossN_step {x : Int × Int × Int} {p : Int} (h : lossOk x p) : lossN x p ≤ lossN x (p + 1) := by
  obtain ⟨x1, x2, x3, x4⟩ := h
  have h1 : x.2.1 * p ≤ x.2.1 * (p + 1) := Int.mul_le_mul_of_nonneg_left (by omega) x2.1
  have h2 : x.2.2 * p ≤ x.2.2 * (p + 1) := Int.mul_le_mul_of_nonneg_left (by omega) x3.1
  have h3 : x.2.2 * p * p ≤ x.2.2 * (p + 1) * (p + 1) := Int.mul_le_mul h2 (by omega) x4.1 (Int.mul_nonneg x3.1 (by omega))
  unfold lossN
  omega
theorem lossS_form {x : Int × Int × Int} {p : Int} (h : lossOk x p) (hp : p ≠ 0) : lossS x p = (lossN x p / 1048576, (lossN x p + 1048575) / 1048576) := by
  have hb := lossN_bd h
  rw [lossS, if_neg hp, Int.tdiv_eq_ediv_of_nonneg hb.2.2.2.1, Int.tdiv_eq_ediv_of_nonneg (by omega), show lossN x p + 1048576 - 1 = lossN x p + 1048575 by omega]
theorem lossS_low {x : Int × Int × Int} {p : Int} (h : lossOk x p) : 0 ≤ (lossS x p).1 ∧ (lossS x p).1 ≤ (lossS x p).2 ∧ (lossS x p).2 ≤ (lossS x p).1 + 1 := by
  by_cases hp : p = 0
  · rw [lossS, if_pos hp]; simp
  · have hb := lossN_bd h
    rw [lossS_form h hp]
    dsimp only
    omega
theorem lossS_mono {x : Int × Int × Int} {p : Int} (h : lossOk x p) (hp : p < 1000) : lossOk x (p + 1) ∧ (lossS x p).1 ≤ (lossS x (p + 1)).1 ∧ (lossS x p).2 ≤ (lossS x (p + 1)).2 := by
  have h' : lossOk x (p + 1) := ⟨h.1, h.2.1, h.2.2.1, by have := h.2.2.2; omega, by omega⟩
  refine ⟨h', ?_⟩
  by_cases h0 : p = 0
  · have := lossS_low h'
    rw [lossS, if_pos h0]
    dsimp only
    omega
  · have hs := lossN_step h
    have h4 := h.2.2.2
    rw [lossS_form h h0, lossS_form h' (by omega)]
    dsimp only
    omega
theorem delivered_le {x : Int × Int × Int} {p : Int} (h : lossOk x p) : (deliveredS x p).1 ≤ p := by
  have := lossS_low h
  have h4 := h.2.2.2
  unfold deliveredS
  dsimp only
  omega
theorem neededGo_some {x : Int × Int × Int} {p : Int} : ∀ {f : Nat} {n m : Int}, neededGo x p n f = some m → n ≤ m ∧ m < n + f ∧ p ≤ (deliveredS x m).1 ∧ ∀ k, n ≤ k → k < m → (deliveredS x k).1 < p
  | 0, _, _, h => by simp [neededGo] at h
  | f + 1, n, m, h => by
    unfold neededGo at h
    split at h
    · rename_i h1
      simp at h
      subst h
      exact ⟨Int.le_refl _, by omega, h1, fun k h2 h3 => by omega⟩
    · rename_i h1
      obtain ⟨i1, i2, i3, i4⟩ := neededGo_some h
      refine ⟨by omega, by omega, i3, fun k h2 h3 => ?_⟩
      by_cases e : k = n
      · subst e; omega
      · exact i4 k (by omega) h3
theorem neededGo_none {x : Int × Int × Int} {p : Int} : ∀ {f : Nat} {n : Int}, neededGo x p n f = none → ∀ k, n ≤ k → k < n + f → (deliveredS x k).1 < p
  | 0, _, _, k, h1, h2 => by omega
  | f + 1, n, h, k, h1, h2 => by
    unfold neededGo at h
    split at h
    · simp at h
    · rename_i h3
      by_cases e : k = n
      · subst e; omega
      · exact neededGo_none h k (by omega) (by omega)
theorem needed_some {x : Int × Int × Int} {p n : Int} (h : lossOk x p) (hn : neededS x p = some n) : (p ≤ n ∧ n ≤ 1000) ∧ p ≤ (deliveredS x n).1 ∧ ∀ k, 0 ≤ k → k < n → (deliveredS x k).1 < p := by
  have h4 := h.2.2.2
  obtain ⟨i1, i2, i3, i4⟩ := neededGo_some hn
  refine ⟨⟨i1, by omega⟩, i3, fun k h1 h2 => ?_⟩
  by_cases e : p ≤ k
  · exact i4 k e h2
  · have := delivered_le (x := x) (p := k) ⟨h.1, h.2.1, h.2.2.1, h1, by omega⟩
    omega
theorem needed_none {x : Int × Int × Int} {p : Int} (h : lossOk x p) (hn : neededS x p = none) : (deliveredS x 1000).1 < p := by
  have h4 := h.2.2.2
  exact neededGo_none hn 1000 (by omega) (by omega)
theorem balGo_acc {x : Int × Int × Int} : ∀ {l : List Int} {s : Int × Int}, balGo x l s = (s.1 + (balGo x l (0, 0)).1, s.2 + (balGo x l (0, 0)).2)
  | [], s => by simp [balGo]
  | n :: r, s => by
    simp only [balGo]
    rw [balGo_acc (l := r) (s := (s.1 + (deliveredS x n).1, s.2 + (deliveredS x n).2)), balGo_acc (l := r) (s := (0 + (deliveredS x n).1, 0 + (deliveredS x n).2))]
    simp only [Prod.mk.injEq]
    omega
theorem balGo_append {x : Int × Int × Int} : ∀ {a b : List Int} {s : Int × Int}, balGo x (a ++ b) s = balGo x b (balGo x a s)
  | [], _, _ => rfl
  | n :: r, b, s => by simp only [List.cons_append, balGo]; exact balGo_append
theorem balGo_sum {x : Int × Int × Int} {a b : List Int} : balGo x (a ++ b) (0, 0) = ((balGo x a (0, 0)).1 + (balGo x b (0, 0)).1, (balGo x a (0, 0)).2 + (balGo x b (0, 0)).2) := by
  rw [balGo_append, balGo_acc]
theorem powers_append {x : Int × Int × Int} {a b : List Int} (ha : powersS x a = 0) (hb : powersS x b = 0) (hl : (a ++ b).length ≤ 256) : powersS x (a ++ b) = 0 := by
  unfold powersS at *
  by_cases h : lossesS x = 0
  · simp only [h, ne_eq, not_true, if_false] at *
    rw [if_neg (by omega)]
    split at ha
    · simp at ha
    split at hb
    · simp at hb
    rw [List.map_append]
    have key : ∀ (u v : List Int), firstS u = 0 → firstS v = 0 → firstS (u ++ v) = 0 := by
      intro u
      induction u with
      | nil => intro v _ h; exact h
      | cons y u ih => intro v h1 h2; rw [firstS_zero] at h1; rw [List.cons_append, firstS_zero]; exact ⟨h1.1, ih v h1.2 h2⟩
    exact key _ _ ha hb
  · simp [h] at ha
theorem balGo_bd {x : Int × Int × Int} : ∀ {l : List Int}, (∀ p ∈ l, lossOk x p) → (0 ≤ (balGo x l (0, 0)).1 ∧ (balGo x l (0, 0)).1 ≤ 1000 * l.length) ∧ 0 ≤ (balGo x l (0, 0)).2 ∧ (balGo x l (0, 0)).2 ≤ 1000 * l.length
  | [], _ => by simp [balGo]
  | n :: r, h => by
    have ih := balGo_bd (l := r) fun y hy => h y (by simp [hy])
    have hb := deliveredS_bd (h n (by simp))
    simp only [balGo]
    rw [balGo_acc (l := r)]
    simp only [List.length_cons]
    omega
end Go.Proofs.YtacaadhlobbemaaGreatDoor
namespace Go.Proofs.YtacaadhlobbemaaGreatDoor
open Go.Sx
inductive RunL (x : TrT) : Int × Int → List (Int × Int) → Prop
  | last {s : Int × Int} : s.1 ≤ x.2.1 → (s.2 = 0 ∧ s.1 ≤ x.1) → RunL x s [s]
  | step {s : Int × Int} {l : List (Int × Int)} : s.1 ≤ x.2.1 → ¬ (s.2 = 0 ∧ s.1 ≤ x.1) → RunL x (nextT x s) l → RunL x s (s :: l)
theorem runL_ne {x : TrT} {s : Int × Int} {l : List (Int × Int)} (h : RunL x s l) : 0 < l.length ∧ l.getD 0 (0, 0) = s := by
  cases h <;> simp
theorem runGo_cases {x : TrT} : ∀ {f : Nat} {i : Int} {s : Int × Int} {out : List (Int × Int)}, (∃ l, RunL x s l ∧ l.length ≤ f ∧ runGo x f i s out = (out ++ l, 0, 0)) ∨ (∃ j, i ≤ j ∧ j < i + f ∧ (j = i → x.2.1 < s.1) ∧ runGo x f i s out = ([], j, 30)) ∨ runGo x f i s out = ([], 0, 20)
  | 0, _, _, _ => .inr (.inr rfl)
  | f + 1, i, s, out => by
    unfold runGo
    by_cases h1 : x.2.1 < s.1
    · rw [if_pos h1]
      exact .inr (.inl ⟨i, Int.le_refl _, by omega, fun _ => h1, rfl⟩)
    rw [if_neg h1]
    by_cases h2 : s.2 = 0 ∧ s.1 ≤ x.1
    · rw [if_pos h2]
      exact .inl ⟨[s], .last (by omega) h2, by simp, rfl⟩
    rw [if_neg h2]
    rcases runGo_cases (x := x) (f := f) (i := i + 1) (s := nextT x s) (out := out ++ [s]) with ⟨l, i1, i2, i3⟩ | ⟨j, i1, i2, i3, i4⟩ | i1
    · exact .inl ⟨s :: l, .step (by omega) h2 i1, by simp; omega, by rw [i3]; simp⟩
    · exact .inr (.inl ⟨j, by omega, by omega, fun h => by omega, i4⟩)
    · exact .inr (.inr i1)
theorem runL_go {x : TrT} {s : Int × Int} {l : List (Int × Int)} (h : RunL x s l) : ∀ {f : Nat} {i : Int} {out : List (Int × Int)}, l.length ≤ f → runGo x f i s out = (out ++ l, 0, 0) := by
  induction h with
  | last h1 h2 =>
    intro f i out hf
    cases f with
    | zero => simp at hf
    | succ f => unfold runGo; rw [if_neg (by omega), if_pos h2]
  | step h1 h2 _ ih =>
    intro f i out hf
    cases f with
    | zero => simp at hf
    | succ f => unfold runGo; rw [if_neg (by omega), if_neg h2, ih (by simpa using hf)]; simp
theorem runL_drop {x : TrT} {s : Int × Int} {l : List (Int × Int)} (h : RunL x s l) : ∀ {k : Nat}, k < l.length → RunL x (l.getD k (0, 0)) (l.drop k) := by
  induction h with
  | @last s h1 h2 =>
    intro k hk
    have : k = 0 := by simpa using hk
    subst this
    exact .last h1 h2
  | @step s l h1 h2 h3 ih =>
    intro k hk
    cases k with
    | zero => exact .step h1 h2 h3
    | succ k => simpa using ih (k := k) (by simpa using hk)
theorem runL_at {x : TrT} {s : Int × Int} {l : List (Int × Int)} (h : RunL x s l) {k : Nat} (hk : k < l.length) : (l.getD k (0, 0)).1 ≤ x.2.1 ∧ (((l.getD k (0, 0)).2 = 0 ∧ (l.getD k (0, 0)).1 ≤ x.1) ↔ k + 1 = l.length) ∧ (k + 1 < l.length → l.getD (k + 1) (0, 0) = nextT x (l.getD k (0, 0))) := by
  have hd := runL_drop h hk
  generalize hg : l.getD k (0, 0) = q at hd
  generalize hm : l.drop k = m at hd
  have hl : m.length = l.length - k := by rw [← hm]; simp
  cases hd with
  | last h1 h2 =>
    have : l.length = k + 1 := by simp at hl; omega
    exact ⟨h1, ⟨fun _ => this.symm, fun _ => h2⟩, fun h => by omega⟩
  | @step s l' h1 h2 h3 =>
    have hn := runL_ne h3
    have : l.length = k + 1 + l'.length := by simp at hl; omega
    refine ⟨h1, ⟨fun h => absurd h h2, fun h => by omega⟩, fun h => ?_⟩
    have e : l.drop (k + 1) = l' := by rw [← List.drop_drop, hm]; rfl
    rw [← hn.2, ← e, List.getD_eq_getElem?_getD, List.getD_eq_getElem?_getD, List.getElem?_drop]
    try rfl
def lessT (x : TrT) (m : Int) : TrT := (x.1, m, x.2.2.1, x.2.2.2)
theorem runL_less {x : TrT} {m : Int} {s : Int × Int} {l : List (Int × Int)} (h : RunL x s l) (hm : x.1 ≤ m) : ∀ {f : Nat} {i : Nat} {out : List (Int × Int)}, l.length ≤ f → runGo (lessT x m) f i s out = if idxS (fun y : Int × Int => decide (m < y.1)) l i < 0 then (out ++ l, 0, 0) else ([], idxS (fun y : Int × Int => decide (m < y.1)) l i, 30) := by
  induction h with
  | @last s h1 h2 =>
    intro f i out hf
    cases f with
    | zero => simp at hf
    | succ f =>
      have e : idxS (fun y : Int × Int => decide (m < y.1)) [s] i = -1 := by
        simp only [idxS]
        rw [if_neg (by simp; omega)]
      rw [e]
      unfold runGo
      rw [if_neg (by simp only [lessT]; omega), if_pos (by simpa [lessT] using h2)]
      rfl
  | @step s l h1 h2 _ ih =>
    intro f i out hf
    cases f with
    | zero => simp at hf
    | succ f =>
      unfold runGo
      by_cases hc : m < s.1
      · have e : idxS (fun y : Int × Int => decide (m < y.1)) (s :: l) i = i := by
          simp only [idxS]
          rw [if_pos (decide_eq_true hc)]
        rw [e, if_pos (by simpa [lessT] using hc), if_neg (by omega)]
      · have e : idxS (fun y : Int × Int => decide (m < y.1)) (s :: l) i = idxS (fun y : Int × Int => decide (m < y.1)) l (i + 1 : Nat) := by
          simp only [idxS]
          rw [if_neg (by simpa using hc)]
          rfl
        rw [e, if_neg (by simpa [lessT] using hc), if_neg (by simpa [lessT] using h2)]
        have := ih (f := f) (i := i + 1) (out := out ++ [s]) (by simpa using hf)
        rw [show ((i : Int) + 1) = ((i + 1 : Nat) : Int) by omega, show nextT (lessT x m) s = nextT x s from rfl, this]
        simp
theorem runL_run {x : TrT} {s : Int × Int} {l : List (Int × Int)} (h : RunL x s l) (he : runE x s = 0) (hl : l.length ≤ 257) : runF x s = (l, 0, 0) := by
  unfold runF
  rw [if_neg (by simpa using he), runL_go h hl]
  rfl
theorem run_cases {x : TrT} {s : Int × Int} (he : runE x s = 0) : (∃ l, RunL x s l ∧ l.length ≤ 257 ∧ runF x s = (l, 0, 0)) ∨ (∃ j, 1 ≤ j ∧ j ≤ 256 ∧ runF x s = ([], j, 30)) ∨ runF x s = ([], 0, 20) := by
  have hf := runE_facts he
  have e : runF x s = runGo x 257 0 s [] := by unfold runF; rw [if_neg (by simpa using he)]
  rw [e]
  rcases runGo_cases (x := x) (f := 257) (i := 0) (s := s) (out := []) with ⟨l, i1, i2, i3⟩ | ⟨j, i1, i2, i3, i4⟩ | i1
  · exact .inl ⟨l, i1, i2, i3⟩
  · refine .inr (.inl ⟨j, ?_, by omega, i4⟩)
    by_cases hj : j = 0
    · have := i3 hj; omega
    · omega
  · exact .inr (.inr i1)
theorem withinS_in {n lo hi : Int} (h : lo ≤ n ∧ n ≤ hi) : withinS n lo hi = 0 := by
  unfold withinS
  rw [decide_eq_false (by omega), decide_eq_false (by omega)]; rfl
theorem runL_nonneg {x : TrT} {s : Int × Int} {l : List (Int × Int)} (hx : 0 ≤ x.2.2.2) (h : RunL x s l) : 0 ≤ s.1 → (0 ≤ s.2 ∧ s.2 ≤ 10000) → ∀ y ∈ l, 0 ≤ y.1 ∧ y.1 ≤ x.2.1 ∧ 0 ≤ y.2 ∧ y.2 ≤ 10000 := by
  induction h with
  | @last s h1 h2 => intro a b y hy; rw [List.mem_singleton.1 hy]; omega
  | @step s l h1 h2 h3 ih =>
    intro a b y hy
    rcases List.mem_cons.1 hy with rfl | hy
    · omega
    · refine ih ?_ ?_ y hy
      · unfold nextT; simp only; omega
      · unfold nextT; simp only; omega
theorem runE_at {x : TrT} {s : Int × Int} {l : List (Int × Int)} (he : runE x s = 0) (h : RunL x s l) {y : Int × Int} (hy : y ∈ l) : runE x y = 0 := by
  obtain ⟨t0, t1, t2⟩ := runE_facts he
  have hx := (trip_facts t0).2.2.2
  have := runL_nonneg (by omega) h t1.1 t2 y hy
  unfold runE
  rw [firstS_zero, firstS_zero, firstS_zero]
  exact ⟨t0, withinS_in (by omega), withinS_in (by omega), rfl⟩
theorem run_rest {x : TrT} {s : Int × Int} {l : List (Int × Int)} (he : runE x s = 0) (h : RunL x s l) (hl : l.length ≤ 257) {k : Nat} (hk : k < l.length) : runF x (l.getD k (0, 0)) = (l.drop k, 0, 0) :=
  runL_run (runL_drop h hk) (runE_at he h (getD_mem hk)) (by simp; omega)
theorem tripS_less {x : TrT} {m : Int} (h : tripS x = 0) (h1 : x.1 ≤ m) (h2 : m ≤ x.2.1) : tripS (lessT x m) = 0 := by
  have hf := trip_facts h
  unfold tripS at h ⊢
  simp only [firstS_zero] at h ⊢
  obtain ⟨a1, a2, a3, a4, a5, _⟩ := h
  refine ⟨a1, withinS_in (by simp only [lessT]; omega), a3, a4, ?_, rfl⟩
  rw [decide_eq_false (by simp only [lessT]; omega)]; rfl
theorem run_less {x : TrT} {s : Int × Int} {m : Int} {l : List (Int × Int)} (he : runE x s = 0) (h : RunL x s l) (hl : l.length ≤ 257) (h1 : x.1 ≤ m) (h2 : m ≤ x.2.1) (h3 : s.1 ≤ m) : runF (lessT x m) s = if idxS (fun y : Int × Int => decide (m < y.1)) l 0 < 0 then (l, 0, 0) else ([], idxS (fun y : Int × Int => decide (m < y.1)) l 0, 30) := by
  obtain ⟨t0, t1, t2⟩ := runE_facts he
  have e : runE (lessT x m) s = 0 := by
    unfold runE
    rw [firstS_zero, firstS_zero, firstS_zero]
    exact ⟨tripS_less t0 h1 h2, withinS_in (by simp only [lessT]; omega), withinS_in (by omega), rfl⟩
  have := runL_less (x := x) (m := m) h h1 (f := 257) (i := 0) (out := []) hl
  unfold runF
  rw [if_neg (by simpa using e)]
  exact this
theorem adds_facts {x : Int × Int × Int} {d : Int} (h : suppOk x) (hd : 0 ≤ d) : (addsS x d = 0 - addN x d ∧ addsS x (0 - d) = addN x d) ∧ (0 ≤ addN x d ∧ addN x d ≤ x.2.2) ∧ (d ≤ x.1 → addN x d = 0) ∧ addN x d ≤ addN x (d + 1) := by
  obtain ⟨h1, h2, h3⟩ := h
  have p0 := Int.mul_nonneg h2.1 (show 0 ≤ max 0 (max d (0 - d) - x.1) by omega)
  have p1 := Int.mul_nonneg h2.1 (show 0 ≤ max 0 (max (d + 1) (0 - (d + 1)) - x.1) by omega)
  have pm : x.2.1 * max 0 (max d (0 - d) - x.1) ≤ x.2.1 * max 0 (max (d + 1) (0 - (d + 1)) - x.1) := Int.mul_le_mul_of_nonneg_left (by omega) h2.1
  have e : addN x (0 - d) = addN x d := by
    unfold addN
    rw [show max (0 - d) (0 - (0 - d)) = max d (0 - d) by omega]
  refine ⟨⟨?_, ?_⟩, ?_, ?_, ?_⟩
  · unfold addsS
    by_cases h0 : 0 < d
    · rw [decide_eq_true h0]; rfl
    · have : d = 0 := by omega
      subst this
      have : addN x 0 = 0 := by
        unfold addN
        rw [show max 0 (max 0 (0 - 0) - x.1) = 0 by omega, Int.mul_zero, Int.zero_tdiv]
        omega
      rw [decide_eq_false h0, this]; rfl
  · unfold addsS
    rw [decide_eq_false (by omega), e]; rfl
  · unfold addN
    rw [Int.tdiv_eq_ediv_of_nonneg p0]
    omega
  · intro h0
    unfold addN
    rw [show max 0 (max d (0 - d) - x.1) = 0 by omega, Int.mul_zero, Int.zero_tdiv]
    omega
  · unfold addN
    rw [Int.tdiv_eq_ediv_of_nonneg p0, Int.tdiv_eq_ediv_of_nonneg p1]
    omega
end Go.Proofs.YtacaadhlobbemaaGreatDoor
namespace Go.Proofs.YtacaadhlobbemaaGreatDoor
open Go.Sx
theorem askedGo_none {t : Int} : ∀ {l : List (Int × Int)} {p : Int}, (∀ x ∈ l, t < x.1) → askedGo t l p = p
  | [], _, _ => rfl
  | x :: r, p, h => by
    have hx := h x (by simp)
    simp only [askedGo]
    rw [if_neg (by omega)]
    exact askedGo_none fun y hy => h y (by simp [hy])
theorem askedGo_cong {t u : Int} : ∀ {l : List (Int × Int)} {p : Int}, (∀ x ∈ l, (x.1 ≤ t ↔ x.1 ≤ u)) → askedGo t l p = askedGo u l p
  | [], _, _ => rfl
  | x :: r, p, h => by
    have hx := h x (by simp)
    simp only [askedGo, hx]
    exact askedGo_cong fun y hy => h y (by simp [hy])
theorem greatest {t : Int} : ∀ (l : List Int), (∀ u ∈ l, t < u) ∨ ∃ m ∈ l, m ≤ t ∧ ∀ u ∈ l, u ≤ t → u ≤ m
  | [] => .inl (by simp)
  | x :: r => by
    rcases greatest (t := t) r with h | ⟨m, h1, h2, h3⟩
    · by_cases hx : x ≤ t
      · refine .inr ⟨x, by simp, hx, fun u hu h4 => ?_⟩
        rcases List.mem_cons.1 hu with rfl | hu
        · exact Int.le_refl _
        · have := h u hu; omega
      · refine .inl fun u hu => ?_
        rcases List.mem_cons.1 hu with rfl | hu
        · omega
        · exact h u hu
    · by_cases hx : x ≤ t ∧ m < x
      · refine .inr ⟨x, by simp, hx.1, fun u hu h4 => ?_⟩
        rcases List.mem_cons.1 hu with rfl | hu
        · exact Int.le_refl _
        · have := h3 u hu h4; omega
      · refine .inr ⟨m, by simp [h1], h2, fun u hu h4 => ?_⟩
        rcases List.mem_cons.1 hu with rfl | hu
        · omega
        · exact h3 u hu h4
theorem asked_at {a b : List (Int × Int)} {t m : Int} (hm : m ≤ t) : ∀ {ts : List Int} {p : Int}, ts.Pairwise (· < ·) → m ∈ ts → (∀ u ∈ ts, u ≤ t → u ≤ m) → askedGo t (ts.map (askP a b)) p = (askP a b m).2
  | [], _, _, h, _ => by simp at h
  | x :: r, p, hs, h, hg => by
    obtain ⟨s1, s2⟩ := List.pairwise_cons.1 hs
    simp only [List.map_cons, askedGo]
    by_cases hx : x = m
    · subst hx
      rw [if_pos (by simpa [askP] using hm)]
      refine askedGo_none fun y hy => ?_
      obtain ⟨u, hu, rfl⟩ := List.mem_map.1 hy
      have h1 := s1 u hu
      show t < u
      by_cases h2 : u ≤ t
      · have := hg u (by simp [hu]) h2; omega
      · omega
    · have hr : m ∈ r := by
        rcases List.mem_cons.1 h with h | h
        · exact absurd h.symm hx
        · exact h
      exact asked_at hm s2 hr fun u hu h2 => hg u (by simp [hu]) h2
theorem merged_asked {a b : List (Int × Int)} (ha : ordersS a = 0) (hb : ordersS b = 0) (t : Int) : askedS ((rTicks a b).map (askP a b)) t = askedS a t + askedS b t := by
  have hmem : ∀ u, u ∈ rTicks a b ↔ u ∈ a.map (·.1) ∨ u ∈ b.map (·.1) := fun u => mergeT_mem (Nat.le_refl _)
  have hs : (rTicks a b).Pairwise (· < ·) := mergeT_rise (Nat.le_refl _) (orders_rise ha) (orders_rise hb)
  rcases greatest (t := t) (rTicks a b) with h | ⟨m, h1, h2, h3⟩
  · have e1 : askedS a t = 0 := askedGo_none fun x hx => h x.1 ((hmem _).2 (.inl (List.mem_map_of_mem hx)))
    have e2 : askedS b t = 0 := askedGo_none fun x hx => h x.1 ((hmem _).2 (.inr (List.mem_map_of_mem hx)))
    rw [e1, e2]
    refine askedGo_none fun y hy => ?_
    obtain ⟨u, hu, rfl⟩ := List.mem_map.1 hy
    exact h u hu
  · have e1 : askedS a t = askedS a m := askedGo_cong fun x hx => ⟨fun h => h3 _ ((hmem _).2 (.inl (List.mem_map_of_mem hx))) h, fun h => by omega⟩
    have e2 : askedS b t = askedS b m := askedGo_cong fun x hx => ⟨fun h => h3 _ ((hmem _).2 (.inr (List.mem_map_of_mem hx))) h, fun h => by omega⟩
    rw [e1, e2]
    exact asked_at h2 hs h1 h3
theorem merged_follow {a b : List (Int × Int)} (ha : ordersS a = 0) (hb : ordersS b = 0) (la : a.length ≤ 10) (lb : b.length ≤ 10) : ((mergedF a b).2 = 0 ∨ (mergedF a b).2 = 4) ∧ ((mergedF a b).2 = 0 → ∀ t, askedS (mergedF a b).1 t = askedS a t + askedS b t) := by
  have hl : (rTicks a b).length ≤ a.length + b.length := mergeT_len
  have hE : mergeE a b = 0 := by unfold mergeE; rw [firstS_zero, firstS_zero]; exact ⟨ha, hb, rfl⟩
  rw [merged_eq]
  unfold rMergedS
  rw [if_neg (by simpa using hE), if_neg (by omega)]
  by_cases h : rMergeE a b = 0
  · rw [if_neg (by simpa using h)]
    exact ⟨.inl rfl, fun _ t => merged_asked ha hb t⟩
  · rw [if_pos h]
    exact ⟨.inr rfl, fun h => by simp at h⟩
def rampG (r : Int) : List (Int × Int) → Int × Int → Int → Int
  | [], q, _ => q.2
  | y :: l, q, t => if t ≤ y.1 then stepAtS (y, q.2, q.1) r t else rampG r l y t
def chainOk (x : Int × Int × Int) : List (Int × Int) → Int × Int → Prop
  | [], _ => True
  | y :: l, q => q.1 ≤ y.1 ∧ (x.2.1 ≤ y.2 ∧ y.2 ≤ x.2.2) ∧ (y.2 - q.2 ≤ x.1 * (y.1 - q.1) ∧ q.2 - y.2 ≤ x.1 * (y.1 - q.1)) ∧ chainOk x l y
theorem stepAt_form {y : Int × Int} {p T r t : Int} : stepAtS (y, p, T) r t = if p < y.2 then max p (y.2 - r * (y.1 - t)) else min p (y.2 + r * (y.1 - t)) := by
  unfold stepAtS
  by_cases h : p < y.2
  · rw [decide_eq_true h, if_pos h]; rfl
  · rw [decide_eq_false h, if_neg h]; rfl
theorem rampG_first {x : Int × Int × Int} (hx : 0 ≤ x.1) : ∀ {l : List (Int × Int)} {q : Int × Int}, chainOk x l q → rampG x.1 l q q.1 = q.2
  | [], _, _ => rfl
  | y :: l, q, h => by
    obtain ⟨h1, h2, h3, _⟩ := h
    unfold rampG
    rw [if_pos h1, stepAt_form]
    split <;> omega
theorem rampG_band {x : Int × Int × Int} (hx : 0 ≤ x.1) : ∀ {l : List (Int × Int)} {q : Int × Int} {t : Int}, chainOk x l q → (x.2.1 ≤ q.2 ∧ q.2 ≤ x.2.2) → x.2.1 ≤ rampG x.1 l q t ∧ rampG x.1 l q t ≤ x.2.2
  | [], _, _, _, h => h
  | y :: l, q, t, h, hq => by
    obtain ⟨h1, h2, h3, h4⟩ := h
    unfold rampG
    split
    · have := Int.mul_nonneg hx (show 0 ≤ y.1 - t by omega)
      rw [stepAt_form]
      split <;> omega
    · exact rampG_band hx h4 h2
theorem stepAt_end {y : Int × Int} {p T r : Int} : stepAtS (y, p, T) r y.1 = y.2 := by
  rw [stepAt_form, Int.sub_self, Int.mul_zero]
  split <;> omega
theorem rampG_step {x : Int × Int × Int} (hx : 0 ≤ x.1) : ∀ {l : List (Int × Int)} {q : Int × Int} {t : Int}, chainOk x l q → rampG x.1 l q (t + 1) - rampG x.1 l q t ≤ x.1 ∧ rampG x.1 l q t - rampG x.1 l q (t + 1) ≤ x.1
  | [], _, _, _ => by simp [rampG]; exact hx
  | y :: l, q, t, h => by
    obtain ⟨h1, h2, h3, h4⟩ := h
    unfold rampG
    by_cases c1 : t + 1 ≤ y.1
    · have e : x.1 * (y.1 - t) = x.1 * (y.1 - (t + 1)) + x.1 := by rw [show y.1 - t = y.1 - (t + 1) + 1 by omega, Int.mul_add, Int.mul_one]
      rw [if_pos c1, if_pos (by omega), stepAt_form, stepAt_form, e]
      split <;> omega
    · rw [if_neg c1]
      by_cases c2 : t ≤ y.1
      · have ht : t = y.1 := by omega
        subst ht
        rw [if_pos (Int.le_refl _), stepAt_end]
        have hf := rampG_first hx h4
        have := rampG_step hx (t := y.1) h4
        omega
      · rw [if_neg c2]
        exact rampG_step hx h4
theorem chain_ge {x : Int × Int × Int} : ∀ {l : List (Int × Int)} {q : Int × Int}, chainOk x l q → ∀ y ∈ l, q.1 ≤ y.1
  | [], _, _, y, hy => by simp at hy
  | z :: l, q, h, y, hy => by
    obtain ⟨h1, h2, h3, h4⟩ := h
    rcases List.mem_cons.1 hy with rfl | hy
    · exact h1
    · have := chain_ge h4 y hy; omega
def prevO (l : List (Int × Int)) (q : Int × Int) (k : Nat) : Int × Int := if k = 0 then q else l.getD (k - 1) (0, 0)
theorem prevO_succ {y : Int × Int} {l : List (Int × Int)} {q : Int × Int} {k : Nat} : prevO (y :: l) q (k + 1) = prevO l y k := by
  unfold prevO
  cases k with
  | zero => simp
  | succ k => simp
theorem prevO_ge {x : Int × Int × Int} {l : List (Int × Int)} {q : Int × Int} {k : Nat} (h : chainOk x l q) (hk : k < l.length) : q.1 ≤ (prevO l q k).1 := by
  unfold prevO
  split
  · exact Int.le_refl _
  · exact chain_ge h _ (getD_mem (by omega))
theorem rampG_at {x : Int × Int × Int} (hx : 0 ≤ x.1) : ∀ {l : List (Int × Int)} {q : Int × Int} {k : Nat} {t : Int}, chainOk x l q → k < l.length → (prevO l q k).1 ≤ t → t ≤ (l.getD k (0, 0)).1 → rampG x.1 l q t = stepAtS (l.getD k (0, 0), (prevO l q k).2, (prevO l q k).1) x.1 t
  | [], _, _, _, _, hk, _, _ => by simp at hk
  | y :: l, q, 0, t, h, _, h1, h2 => by
    unfold rampG
    rw [if_pos (by simpa using h2)]
    simp [prevO]
  | y :: l, q, k + 1, t, h, hk, h1, h2 => by
    obtain ⟨g1, g2, g3, g4⟩ := h
    have hk' : k < l.length := by simpa using hk
    rw [prevO_succ] at h1 ⊢
    have e : (y :: l).getD (k + 1) (0, 0) = l.getD k (0, 0) := by simp
    rw [e] at h2 ⊢
    have hp := prevO_ge g4 hk'
    have ih := rampG_at hx (k := k) (t := t) g4 hk' h1 h2
    unfold rampG
    by_cases c : t ≤ y.1
    · have ht : t = y.1 := by omega
      subst ht
      rw [if_pos (Int.le_refl _), stepAt_end, ← ih, rampG_first hx g4]
    · rw [if_neg c]
      exact ih
theorem chain_at {x : Int × Int × Int} : ∀ {l : List (Int × Int)} {q : Int × Int} {k : Nat}, chainOk x l q → k < l.length → (prevO l q k).1 ≤ (l.getD k (0, 0)).1 ∧ ((l.getD k (0, 0)).2 - (prevO l q k).2 ≤ x.1 * ((l.getD k (0, 0)).1 - (prevO l q k).1) ∧ (prevO l q k).2 - (l.getD k (0, 0)).2 ≤ x.1 * ((l.getD k (0, 0)).1 - (prevO l q k).1))
  | [], _, _, _, hk => by simp at hk
  | y :: l, q, 0, h, _ => by
    obtain ⟨g1, g2, g3, g4⟩ := h
    simpa [prevO] using ⟨g1, g3⟩
  | y :: l, q, k + 1, h, hk => by
    obtain ⟨g1, g2, g3, g4⟩ := h
    rw [prevO_succ]
    simpa using chain_at (k := k) g4 (by simpa using hk)
theorem rampG_last {r : Int} : ∀ {l : List (Int × Int)} {q : Int × Int} {t : Int}, (∀ y ∈ l, y.1 < t) → rampG r l q t = (prevO l q l.length).2
  | [], _, _, _ => rfl
  | y :: l, q, t, h => by
    have hy := h y (by simp)
    unfold rampG
    rw [if_neg (by omega), rampG_last fun z hz => h z (by simp [hz]), List.length_cons, prevO_succ]
theorem rampTS_go {r t : Int} : ∀ {l : List (Int × Int)} {q : Int × Int} {k : Nat}, (let i := idxS (fun s : StT => decide (t ≤ s.1.1)) (stepsGo l q) k
    if 0 ≤ i then stepAtS ((stepsGo l q).getD (i - k).toNat ((0, 0), 0, 0)) r t else if 0 < (stepsGo l q).length then ((stepsGo l q).getD ((stepsGo l q).length - 1) ((0, 0), 0, 0)).1.2 else q.2) = rampG r l q t
  | [], q, k => by simp [stepsGo, idxS, rampG]
  | y :: l, q, k => by
    have ih := rampTS_go (r := r) (t := t) (l := l) (q := y) (k := k + 1)
    have hb := idxS_bd (f := fun s : StT => decide (t ≤ s.1.1)) (l := stepsGo l y) (k := k + 1)
    have es : stepsGo (y :: l) q = (y, q.2, q.1) :: stepsGo l y := rfl
    have er : rampG r (y :: l) q t = if t ≤ y.1 then stepAtS (y, q.2, q.1) r t else rampG r l y t := rfl
    have ei : idxS (fun s : StT => decide (t ≤ s.1.1)) ((y, q.2, q.1) :: stepsGo l y) (k : Int) = if t ≤ y.1 then (k : Int) else idxS (fun s : StT => decide (t ≤ s.1.1)) (stepsGo l y) ((k + 1 : Nat) : Int) := by
      simp only [idxS, decide_eq_true_eq]
      rfl
    rw [es, er, ei]
    by_cases c : t ≤ y.1
    · simp only [if_pos c]
      rw [if_pos (by omega), Int.sub_self]
      rfl
    · simp only [if_neg c]
      rw [← ih]
      have e1 : ((k + 1 : Nat) : Int) = (k : Int) + 1 := by omega
      simp only [e1] at hb ⊢
      generalize idxS (fun s : StT => decide (t ≤ s.1.1)) (stepsGo l y) ((k : Int) + 1) = i at *
      by_cases hi : 0 ≤ i
      · rw [if_pos hi, if_pos hi]
        obtain ⟨n, hn⟩ : ∃ n : Nat, i - k = (n : Int) + 1 := ⟨(i - k - 1).toNat, by omega⟩
        rw [hn, show ((n : Int) + 1).toNat = n + 1 by omega, show (i - ((k : Int) + 1)).toNat = n by omega]
        simp
      · rw [if_neg hi, if_neg hi, if_pos (by simp)]
        cases hl : stepsGo l y with
        | nil => simp
        | cons s m => simp
theorem rampTS_eq {x : Int × Int × Int} {fr : Int} {l : List (Int × Int)} {t : Int} : rampTS x fr l t = rampG x.1 l (0, fr) t := by
  have := rampTS_go (r := x.1) (t := t) (l := l) (q := (0, fr)) (k := 0)
  rw [← this]
  unfold rampTS stepsS
  simp
theorem refused_zero {x : Int × Int × Int} {y : Int × Int} {p T : Int} (h : refusedS x (y, p, T) = 0) : (x.2.1 ≤ y.2 ∧ y.2 ≤ x.2.2) ∧ (y.2 - p ≤ x.1 * (y.1 - T) ∧ p - y.2 ≤ x.1 * (y.1 - T)) := by
  unfold refusedS at h
  rw [firstS_zero, firstS_zero] at h
  obtain ⟨h1, h2, _⟩ := h
  by_cases c1 : y.2 < x.2.1
  · simp [c1] at h1
  by_cases c2 : x.2.2 < y.2
  · simp [c2] at h1
  by_cases c3 : x.1 * (y.1 - T) < changeS (y, p, T)
  · simp [c3] at h2
  · unfold changeS at c3
    dsimp only at c3
    omega
theorem refused_not {x : Int × Int × Int} {y : Int × Int} {p T : Int} (h : refusedS x (y, p, T) ≠ 0) : ¬ ((x.2.1 ≤ y.2 ∧ y.2 ≤ x.2.2) ∧ y.2 ≤ p + x.1 * (y.1 - T) ∧ p - x.1 * (y.1 - T) ≤ y.2) := by
  rintro ⟨⟨h1, h2⟩, h3, h4⟩
  apply h
  unfold refusedS
  rw [firstS_zero, firstS_zero]
  refine ⟨?_, ?_, rfl⟩
  · rw [decide_eq_false (by dsimp only; omega), decide_eq_false (by dsimp only; omega)]; rfl
  · rw [decide_eq_false (by unfold changeS; dsimp only; omega)]; rfl
theorem chain_of {x : Int × Int × Int} : ∀ {l : List (Int × Int)} {q : Int × Int} {tk : Int}, ordersGo l tk = 0 → q.1 ≤ tk + 1 → firstS ((stepsGo l q).map (refusedS x)) = 0 → chainOk x l q
  | [], _, _, _, _, _ => trivial
  | y :: l, q, tk, h1, h2, h3 => by
    have hr := orders_rise_go h1
    have ht := hr.2 y (by simp)
    simp only [stepsGo, List.map_cons] at h3
    rw [firstS_zero] at h3
    obtain ⟨a1, a2⟩ := refused_zero h3.1
    unfold ordersGo at h1
    simp only at h1
    split at h1
    · rename_i c; exact absurd h1 c
    · exact ⟨by omega, a1, a2, chain_of h1 (by omega) h3.2⟩
theorem ordersGo_take : ∀ {l : List (Int × Int)} {tk : Int} {n : Nat}, ordersGo l tk = 0 → ordersGo (l.take n) tk = 0
  | [], _, _, _ => by simp [ordersGo]
  | y :: l, tk, 0, _ => by simp [ordersGo]
  | y :: l, tk, n + 1, h => by
    unfold ordersGo at h ⊢
    simp only [List.take_succ_cons] at h ⊢
    split at h
    · rename_i c; exact absurd h c
    · rename_i c
      rw [if_neg c]
      exact ordersGo_take h
theorem ordersS_take {l : List (Int × Int)} {n : Nat} (h : ordersS l = 0) : ordersS (l.take n) = 0 := by
  have hl := orders_len h
  unfold ordersS at h ⊢
  rw [if_neg (by omega)] at h
  rw [if_neg (by rw [List.length_take]; omega)]
  exact ordersGo_take h
theorem rampE_take {x : Int × Int × Int} {fr : Int} {l : List (Int × Int)} {n : Nat} (h : rampE x fr l = 0) : rampE x fr (l.take n) = 0 := by
  unfold rampE at h ⊢
  rw [firstS_zero, firstS_zero, firstS_zero] at h ⊢
  exact ⟨h.1, h.2.1, ordersS_take h.2.2.1, rfl⟩
theorem refE_take {x : Int × Int × Int} {fr : Int} {l : List (Int × Int)} {n : Nat} (h : refIdx x fr l < 0 ∨ (n : Int) ≤ refIdx x fr l) : refE x fr (l.take n) = 0 := by
  have := first_take (f := refusedS x) (l := stepsS fr l) (n := n) (k := 0)
  unfold refE stepsS
  rw [steps_take]
  unfold refIdx at h
  unfold stepsS at this h
  have e0 : idxS (fun s => refusedS x s != 0) (stepsGo l (0, fr)) ((0 : Nat) : Int) = idxS (fun s => refusedS x s != 0) (stepsGo l (0, fr)) 0 := rfl
  rw [e0] at this
  rw [this, if_neg (by omega)]
theorem ramp_chain {x : Int × Int × Int} {fr : Int} {l : List (Int × Int)} (h : rampE x fr l = 0) (hr : refE x fr l = 0) : chainOk x l (0, fr) ∧ 1 ≤ x.1 ∧ x.2.1 ≤ fr ∧ fr ≤ x.2.2 := by
  have hz := rampE_zero h
  have ho := hz.2.1
  have hlen := orders_len ho
  unfold rampE at h
  rw [firstS_zero, firstS_zero] at h
  have hf := withinS_zero h.2.1
  refine ⟨chain_of (tk := -1) ?_ (by simp) hr, hz.1.1.1, hf.1, hf.2⟩
  unfold ordersS at ho
  rw [if_neg (by omega)] at ho
  exact ho
theorem refIdx_nth {x : Int × Int × Int} {fr : Int} {l : List (Int × Int)} (h : 0 ≤ refIdx x fr l) : refIdx x fr l < l.length ∧ refusedS x (stpS fr l (refIdx x fr l)) ≠ 0 := by
  have hb := idxS_bd (f := fun s => refusedS x s != 0) (l := stepsS fr l) (k := 0)
  have key : ∀ {l : List StT} {k : Nat}, 0 ≤ idxS (fun s => refusedS x s != 0) l k → refusedS x (l.getD (idxS (fun s => refusedS x s != 0) l k - k).toNat ((0, 0), 0, 0)) ≠ 0 := by
    intro l
    induction l with
    | nil => intro k h; simp [idxS] at h
    | cons s m ih =>
      intro k h
      have hb := idxS_bd (f := fun s => refusedS x s != 0) (l := m) (k := k + 1)
      simp only [idxS] at h ⊢
      by_cases c : (refusedS x s != 0) = true
      · rw [if_pos c, Int.sub_self]
        exact bne_iff_ne.1 c
      · rw [if_neg c] at h ⊢
        have e1 : (k : Int) + 1 = ((k + 1 : Nat) : Int) := by omega
        rw [e1] at h ⊢
        have := ih (k := k + 1) h
        generalize idxS (fun s => refusedS x s != 0) m ((k + 1 : Nat) : Int) = i at *
        obtain ⟨n, hn⟩ : ∃ n : Nat, i - k = (n : Int) + 1 := ⟨(i - k - 1).toNat, by omega⟩
        rw [hn, show ((n : Int) + 1).toNat = n + 1 by omega]
        rw [show (i - ((k + 1 : Nat) : Int)).toNat = n by omega] at this
        simpa using this
  unfold refIdx at h ⊢
  have hl : (stepsS fr l).length = l.length := steps_len
  have hb' : idxS (fun s => refusedS x s != 0) (stepsS fr l) 0 = -1 ∨ (0 : Int) ≤ idxS (fun s => refusedS x s != 0) (stepsS fr l) 0 ∧ idxS (fun s => refusedS x s != 0) (stepsS fr l) 0 < 0 + ((stepsS fr l).length : Int) := hb
  refine ⟨by omega, ?_⟩
  have := key (l := stepsS fr l) (k := 0) h
  simpa [stpS] using this
theorem ceil_facts {c r n : Int} (hr : 1 ≤ r) (hc : 0 ≤ c) (hn : c ≤ r * n) : 0 ≤ (c + r - 1).tdiv r ∧ (c + r - 1).tdiv r ≤ n ∧ c ≤ r * ((c + r - 1).tdiv r) ∧ r * ((c + r - 1).tdiv r - 1) < c := by
  rw [Int.tdiv_eq_ediv_of_nonneg (by omega)]
  have h1 := Int.mul_ediv_self_le (x := c + r - 1) (k := r) (by omega)
  have h2 := Int.lt_mul_ediv_self_add (x := c + r - 1) (k := r) (by omega)
  have h3 : 0 ≤ (c + r - 1) / r := Int.ediv_nonneg (by omega) (by omega)
  generalize (c + r - 1) / r = q at *
  have e : r * (q - 1) = r * q - r := by rw [Int.mul_sub, Int.mul_one]
  refine ⟨h3, ?_, by omega, by omega⟩
  by_cases hq : q ≤ n
  · exact hq
  · have := Int.mul_le_mul_of_nonneg_left (a := n + 1) (b := q) (c := r) (by omega) (by omega)
    rw [Int.mul_add, Int.mul_one] at this
    omega
def lateT (x : Int × Int × Int) (fr : Int) (l : List (Int × Int)) (k : Nat) : Int := (l.getD k (0, 0)).1 - (changeS (l.getD k (0, 0), (prevO l (0, fr) k).2, (prevO l (0, fr) k).1) + x.1 - 1).tdiv x.1
theorem late_follow {x : Int × Int × Int} {fr : Int} {l : List (Int × Int)} (h : chainOk x l (0, fr)) (hx : 1 ≤ x.1) {k : Nat} (hk : k < l.length) : (0 ≤ lateT x fr l k ∧ lateT x fr l k ≤ (l.getD k (0, 0)).1) ∧ rampG x.1 l (0, fr) (l.getD k (0, 0)).1 = (l.getD k (0, 0)).2 ∧ rampG x.1 l (0, fr) (lateT x fr l k) = (prevO l (0, fr) k).2 ∧ ((l.getD k (0, 0)).2 ≠ (prevO l (0, fr) k).2 → rampG x.1 l (0, fr) (lateT x fr l k + 1) ≠ (prevO l (0, fr) k).2) := by
  have hg : 0 ≤ (prevO l (0, fr) k).1 := prevO_ge h hk
  obtain ⟨c1, c2, c3⟩ := chain_at h hk
  have hat := fun t => rampG_at (x := x) (by omega) (k := k) (t := t) h hk
  unfold lateT
  have hc0 : 0 ≤ changeS (l.getD k (0, 0), (prevO l (0, fr) k).2, (prevO l (0, fr) k).1) := by unfold changeS; dsimp only; omega
  obtain ⟨f1, f2, f3, f4⟩ := ceil_facts (c := changeS (l.getD k (0, 0), (prevO l (0, fr) k).2, (prevO l (0, fr) k).1)) (r := x.1) (n := (l.getD k (0, 0)).1 - (prevO l (0, fr) k).1) hx hc0 (by unfold changeS; dsimp only; omega)
  have hcd : changeS (l.getD k (0, 0), (prevO l (0, fr) k).2, (prevO l (0, fr) k).1) = max ((l.getD k (0, 0)).2 - (prevO l (0, fr) k).2) ((prevO l (0, fr) k).2 - (l.getD k (0, 0)).2) := rfl
  generalize (changeS (l.getD k (0, 0), (prevO l (0, fr) k).2, (prevO l (0, fr) k).1) + x.1 - 1).tdiv x.1 = q at *
  rw [hcd] at f3 f4
  generalize l.getD k (0, 0) = y at *
  generalize prevO l (0, fr) k = p at *
  refine ⟨⟨by omega, by omega⟩, ?_, ?_, fun hne => ?_⟩
  · rw [hat _ c1 (Int.le_refl _), stepAt_end]
  · rw [hat _ (by omega) (by omega), stepAt_form, show y.1 - (y.1 - q) = q by omega]
    split <;> omega
  · have hq : 1 ≤ q := by
      rcases Int.lt_or_le 0 q with h0 | h0
      · omega
      · have : q = 0 := by omega
        subst this
        rw [Int.mul_zero] at f3
        omega
    rw [hat _ (by omega) (by omega), stepAt_form, show y.1 - (y.1 - q + 1) = q - 1 by omega]
    split <;> omega
theorem latest_eq {x : Int × Int × Int} {fr : Int} {l : List (Int × Int)} (h : rampE x fr l = 0) (hr : refE x fr l = 0) {k : Nat} (hk : k < l.length) : xLatestS x fr l k = (lateT x fr l k, 0) := by
  have h0 : lateE x fr l k = 0 := by
    unfold lateE
    rw [firstS_zero, firstS_zero]
    refine ⟨h, ?_, rfl⟩
    rw [decide_eq_false (by omega), decide_eq_false (by omega)]; rfl
  have hi : ¬ 0 ≤ refIdx x fr l := by
    exact fun hh => (idx_first (g := refusedS x) (l := stepsS fr l) (k := 0)).1 hh hr
  have h1 : refE x fr (l.take ((k : Int) + 1).toNat) = 0 := refE_take (.inl (by omega))
  unfold xLatestS
  rw [if_neg (by simpa using h0), if_neg (by simpa using h1)]
  have e : (stepsS fr (l.take ((k : Int) + 1).toNat)).getD (k : Int).toNat ((0, 0), 0, 0) = (l.getD k (0, 0), (prevO l (0, fr) k).2, (prevO l (0, fr) k).1) := by
    unfold stepsS
    rw [steps_take, List.getD_eq_getElem?_getD, List.getElem?_take, if_pos (by omega), ← List.getD_eq_getElem?_getD, Int.toNat_natCast, stepsGo_get hk]
    rfl
  simp only [e]
  rfl
end Go.Proofs.YtacaadhlobbemaaGreatDoor
namespace Go.Proofs.YtacaadhlobbemaaGreatDoor
open Go.Sx
def cX2 : Con := { args := [a3], ress := [(true, s3)], owns := [], pre := fun _ => [], spec := fun (x, _) => (x, ()) }
theorem vc81 : ∀ (x : Int × Int × Int), wpF Tryz.prog G133 (na ()) Tryz.f81 cX2 (x, ()) = ((x.fst, x.snd.fst, x.snd.snd) = x) := by
  intros
  kernel_rfl
theorem wp81 (x : Int × Int × Int) : wpF Tryz.prog G133 (na ()) Tryz.f81 cX2 (x, ()) := by
  refine (vc81 x).mpr ?_
  rfl
theorem ok81 : Ok Tryz.prog 81 cX2 := ok_of_wp mixed g133 (by kernel_rfl) (by kernel_rfl) na fun xx => wp81 xx.1
abbrev G134 : Gam := (81, cX2) :: G133
theorem g134 : GamOk Tryz.prog G134 := .cons ok81 g133
end Go.Proofs.YtacaadhlobbemaaGreatDoor
