/- Contracts of the functions that the laws reach: part of the proof. -/
import Derived.Test.YtacaadhlobbemaaGreatDoorFB
set_option linter.unusedSimpArgs false
set_option linter.unusedVariables false
set_option maxRecDepth 20000
namespace Go.Proofs.YtacaadhlobbemaaGreatDoor
open Go.Sx
def cConcat : Con := { args := [.val false (.list 85 (.list 172 sPt))], ress := [(false, .list 172 sPt)], owns := [true], pre := fun (l, _) => [l.length ≤ 1000, ∀ x ∈ l, x.length ≤ 1000], spec := fun (l, _) => (l.flatten, ()) }
abbrev annCat (l : List (List (Int × Int))) : Nat → Option Ann := fun id =>
  if id = 0 then some { X := Nat, σ := fun k => ⟨1, [(0, .one (.sl 0)), (3, .one (.int .i64 (l.take k).flatten.length)), (9, .one (.sl 0)), (10, .one (.int .i64 l.length)), (11, .one (.int .i64 k))], [(0, .imm 85 (.list 172 sPt) l)]⟩, inv := fun k => k ≤ l.length, mu := fun k => l.length - k }
  else if id = 2 then some { X := Nat, σ := fun k => ⟨2, [(6, .one (.sl 1)), (25, .one (.sl 0)), (26, .one (.int .i64 l.length)), (27, .one (.int .i64 k))], [(0, .imm 85 (.list 172 sPt) l), (1, .own 172 sPt (l.take k).flatten)]⟩, inv := fun k => k ≤ l.length, mu := fun k => l.length - k }
  else none
theorem flat_le {l : List (List (Int × Int))} (h : ∀ x ∈ l, x.length ≤ 1000) : l.flatten.length ≤ 1000 * l.length := by
  induction l with
  | nil => simp
  | cons x r ih =>
    have i1 := ih fun y hy => h y (by simp [hy])
    have i2 := h x (by simp)
    simp only [List.flatten_cons, List.length_append, List.length_cons]
    omega
theorem vc125 : ∀ (l : List (List (Int × Int))), wpF Tryz.prog G130 (annCat l) Tryz.f125 cConcat (l, ()) = (List.length l ≤ (1000 : Nat) → (∀ (x : List (Int × Int)), x ∈ l → List.length x ≤ (1000 : Nat)) → ∃ (x : Nat), ((0 : Int) = (↑(List.length (List.flatten (List.take x l))) : Int) ∧ (↑(List.length l) : Int) = (↑(List.length l) : Int) ∧ (0 : Int) = (↑x : Int) ∧ l = l) ∧ x ≤ List.length l ∧ ∀ (x : Nat), x ≤ List.length l → (decide ((↑x : Int) < (↑(List.length l) : Int)) = true → (((0 : Int) ≤ (↑x : Int) ∧ (↑x : Int) < (↑(List.length l) : Int)) ∧ (0 : Int) ≤ (↑x : Int) ∧ (↑x : Int) < (↑(List.length l) : Int)) ∧ ((-9223372036854775808 : Int) ≤ (↑(List.length (List.flatten (List.take x l))) : Int) + (↑(List.length (List.getD l x [])) : Int) ∧ (↑(List.length (List.flatten (List.take x l))) : Int) + (↑(List.length (List.getD l x [])) : Int) ≤ (9223372036854775807 : Int)) ∧ (decide ((↑(List.length (List.flatten (List.take x l))) : Int) + (↑(List.length (List.getD l x [])) : Int) < (0 : Int)) = true → STUCK (7 : Nat) (0 : Nat)) ∧ (decide ((↑(List.length (List.flatten (List.take x l))) : Int) + (↑(List.length (List.getD l x [])) : Int) < (0 : Int)) = false → ((-9223372036854775808 : Int) ≤ (↑x : Int) + (1 : Int) ∧ (↑x : Int) + (1 : Int) ≤ (9223372036854775807 : Int)) ∧ ∃ (y : Nat), ((↑(List.length (List.flatten (List.take x l))) : Int) + (↑(List.length (List.getD l x [])) : Int) = (↑(List.length (List.flatten (List.take y l))) : Int) ∧ (↑(List.length l) : Int) = (↑(List.length l) : Int) ∧ (↑x : Int) + (1 : Int) = (↑y : Int) ∧ l = l) ∧ y ≤ List.length l ∧ List.length l - y < List.length l - x)) ∧ (decide ((↑x : Int) < (↑(List.length l) : Int)) = false → ((0 : Int) ≤ (↑(List.length (List.flatten (List.take x l))) : Int) ∧ (↑(List.length (List.flatten (List.take x l))) : Int) ≤ (1000000 : Int)) ∧ ∃ (x : Nat), ((↑(List.length l) : Int) = (↑(List.length l) : Int) ∧ (0 : Int) = (↑x : Int) ∧ l = l ∧ [] = List.flatten (List.take x l)) ∧ x ≤ List.length l ∧ ∀ (x : Nat), x ≤ List.length l → (decide ((↑x : Int) < (↑(List.length l) : Int)) = true → (((0 : Int) ≤ (↑x : Int) ∧ (↑x : Int) < (↑(List.length l) : Int)) ∧ (0 : Int) ≤ (↑x : Int) ∧ (↑x : Int) < (↑(List.length l) : Int)) ∧ (List.length (List.flatten (List.take x l)) + List.length (List.getD l x [])) * (16 : Nat) ≤ (140737488355328 : Nat) ∧ ((-9223372036854775808 : Int) ≤ (↑x : Int) + (1 : Int) ∧ (↑x : Int) + (1 : Int) ≤ (9223372036854775807 : Int)) ∧ ∃ (y : Nat), ((↑(List.length l) : Int) = (↑(List.length l) : Int) ∧ (↑x : Int) + (1 : Int) = (↑y : Int) ∧ l = l ∧ List.flatten (List.take x l) ++ List.getD l x [] = List.flatten (List.take y l)) ∧ y ≤ List.length l ∧ List.length l - y < List.length l - x) ∧ (decide ((↑x : Int) < (↑(List.length l) : Int)) = false → List.flatten (List.take x l) = List.flatten l))) := by
  intros
  kernel_rfl
theorem wp125 (l : List (List (Int × Int))) : wpF Tryz.prog G130 (annCat l) Tryz.f125 cConcat (l, ()) := by
  refine (vc125 l).mpr ?_
  intro hb hl
  have hs : ∀ k, k < l.length → (l.take (k + 1)).flatten = (l.take k).flatten ++ l.getD k [] := fun k hk => by
    rw [← take_snoc (d := []) hk, List.flatten_append]; simp
  have hbd : ∀ k, (l.take k).flatten.length ≤ 1000000 := fun k => by
    have := flat_le (l := l.take k) fun x hx => hl x (List.mem_of_mem_take hx)
    have h2 := List.length_take_le' k l
    omega
  refine ⟨(0 : Nat), by simp, Nat.zero_le _, fun (k : Nat) hk => ⟨fun h => ?_, fun h => ?_⟩⟩
  · have hlt : k < l.length := by simpa using h
    have h1 := hl _ (getD_mem (d := []) hlt)
    have h2 := hbd k
    refine ⟨⟨⟨by omega, by omega⟩, by omega, by omega⟩, ⟨by omega, by omega⟩, fun h3 => ?_, fun h3 => ⟨⟨by omega, by omega⟩, (k + 1 : Nat), ⟨?_, rfl, by simp, rfl⟩, by omega, by omega⟩⟩
    · have := of_decide_eq_true h3; omega
    · rw [hs k hlt, List.length_append]; simp
  · have h2 := hbd k
    refine ⟨⟨by omega, by omega⟩, (0 : Nat), by simp, Nat.zero_le _, fun (k : Nat) hk => ⟨fun h => ?_, fun h => ?_⟩⟩
    · have hlt : k < l.length := by simpa using h
      have h1 := hl _ (getD_mem (d := []) hlt)
      have h2 := hbd k
      refine ⟨⟨⟨by omega, by omega⟩, by omega, by omega⟩, ?_, ⟨by omega, by omega⟩, (k + 1 : Nat), ⟨rfl, by simp, rfl, (hs k hlt).symm⟩, by omega, by omega⟩
      show ((l.take k).flatten.length + (l.getD k []).length) * 16 ≤ 140737488355328
      omega
    · have hlt : ¬ k < l.length := by simpa using h
      rw [List.take_of_length_le (by omega)]
theorem ok125 : Ok Tryz.prog 125 cConcat := ok_of_wp mixed g130 (by kernel_rfl) (by kernel_rfl) (fun xx => annCat xx.1) fun xx => wp125 xx.1
abbrev G131 : Gam := (125, cConcat) :: G130
theorem g131 : GamOk Tryz.prog G131 := .cons ok125 g130
def keysS : List (Int × Int) → List Int → List Int
  | [], ks => ks
  | x :: r, ks => keysS r (insKey ks x.1)
def mergeK (a b : List (Int × Int)) : List Int := keysS (a ++ b) []
def mergeO (a b : List (Int × Int)) : List (Int × Int) := isortT ((mergeK a b).map (askP a b))
def mergeE2 (a b : List (Int × Int)) : Int := firstS [bif decide (32 < ((mergeO a b).length : Int)) then 5 else 0, bif decide (0 ≤ idxS (fun x : Int × Int => withinS x.2 (-1000) 1000 != 0) (mergeO a b) 0) then 4 else 0]
def mergedF (a b : List (Int × Int)) : List (Int × Int) × Int := if mergeE a b ≠ 0 then ([], mergeE a b) else if mergeE2 a b ≠ 0 then ([], mergeE2 a b) else (mergeO a b, 0)
def cMerged : Con := { args := [aL 172, aL 172], ress := [(false, .list 172 sPt), I], owns := [true], pre := fun _ => [], spec := fun (a, b, _) => ((mergedF a b).1, (mergedF a b).2, ()) }
def seenO (a b : List (Int × Int)) (ks : List Int) (seen : List Nat) : List (Int × Int) := seen.map fun p => askP a b (ks.getD p 0)
theorem keysS_snoc : ∀ (l : List (Int × Int)) (x : Int × Int) (ks : List Int), keysS (l ++ [x]) ks = insKey (keysS l ks) x.1
  | [], _, _ => rfl
  | y :: l, x, ks => keysS_snoc l x (insKey ks y.1)
theorem insKey_nodup {ks : List Int} {k : Int} (h : ks.Nodup) : (insKey ks k).Nodup := by
  unfold insKey
  cases hc : ks.contains k with
  | true => exact h
  | false =>
    have : k ∉ ks := by simpa using hc
    simp only [cond_false]
    refine List.nodup_append.2 ⟨h, by simp, fun x hx y hy => ?_⟩
    have : y = k := by simpa using hy
    subst this
    rintro rfl
    contradiction
theorem insKey_len {ks : List Int} {k : Int} : (insKey ks k).length ≤ ks.length + 1 := by
  unfold insKey
  cases ks.contains k <;> simp
theorem keysS_ok : ∀ {l : List (Int × Int)} {ks : List Int}, ks.Nodup → (keysS l ks).Nodup ∧ (keysS l ks).length ≤ ks.length + l.length
  | [], ks, h => ⟨h, by simp [keysS]⟩
  | x :: l, ks, h => by
    have ih := keysS_ok (l := l) (insKey_nodup (k := x.1) h)
    have := insKey_len (ks := ks) (k := x.1)
    simp only [keysS, List.length_cons]
    exact ⟨ih.1, by omega⟩
theorem perm_mem : ∀ {l l' : List Nat}, l.Nodup → l'.Nodup → (∀ a, a ∈ l ↔ a ∈ l') → l.Perm l'
  | [], l', _, _, h => by
    have : l' = [] := List.eq_nil_iff_forall_not_mem.2 fun a ha => by simpa using (h a).2 ha
    rw [this]
  | a :: r, l', h1, h2, h => by
    have ha : a ∈ l' := (h a).1 (by simp)
    have h1' := List.nodup_cons.1 h1
    refine (List.Perm.cons a (perm_mem h1'.2 (h2.erase a) fun b => ?_)).trans (List.perm_cons_erase ha).symm
    rw [h2.mem_erase_iff]
    constructor
    · intro hb
      exact ⟨by rintro rfl; exact h1'.1 hb, (h b).1 (by simp [hb])⟩
    · rintro ⟨hne, hb⟩
      rcases List.mem_cons.1 ((h b).2 hb) with q | q
      · exact absurd q hne
      · exact q
theorem seen_perm {a b : List (Int × Int)} {ks : List Int} {seen : List Nat} (h1 : seen.Nodup) (h2 : ∀ p ∈ seen, p < ks.length) (h3 : ∀ p, p < ks.length → p ∈ seen) : (seenO a b ks seen).Perm (ks.map (askP a b)) := by
  have hp : seen.Perm (List.range ks.length) := perm_mem h1 List.nodup_range fun p => ⟨fun h => List.mem_range.2 (h2 p h), fun h => h3 p (List.mem_range.1 h)⟩
  have e : (List.range ks.length).map (fun p => askP a b (ks.getD p 0)) = ks.map (askP a b) := by
    apply List.ext_getElem?
    intro j
    by_cases hj : j < ks.length
    · simp [List.getElem?_map, List.getElem?_range hj, hj]
    · rw [List.getElem?_eq_none (by simp; omega), List.getElem?_eq_none (by simp; omega)]
  rw [← e]
  exact hp.map _
theorem keys_tickNe {a b : List (Int × Int)} : ∀ {ks : List Int}, ks.Nodup → tickNe (ks.map (askP a b))
  | [], _ => by simp [tickNe]
  | k :: r, h => by
    have h' := List.nodup_cons.1 h
    refine List.pairwise_cons.2 ⟨fun y hy => ?_, keys_tickNe h'.2⟩
    obtain ⟨q, hq, rfl⟩ := List.mem_map.1 hy
    show k ≠ q
    rintro rfl
    exact h'.1 hq
theorem nodup_len : ∀ (n : Nat) {l : List Nat}, l.Nodup → (∀ p ∈ l, p < n) → l.length ≤ n
  | 0, l, _, h => by
    have : l = [] := List.eq_nil_iff_forall_not_mem.2 fun a ha => by have := h a ha; omega
    rw [this]; simp
  | n + 1, l, hn, h => by
    by_cases hm : n ∈ l
    · have ih := nodup_len n (hn.erase n) fun p hp => by
        have := (hn.mem_erase_iff).1 hp
        have h2 := h p this.2
        have := this.1
        omega
      rw [List.length_erase_of_mem hm] at ih
      omega
    · have ih := nodup_len n hn fun p hp => by
        have h2 := h p hp
        have : p ≠ n := by rintro rfl; exact hm hp
        omega
      omega
abbrev annMerged (a b : List (Int × Int)) : Nat → Option Ann := fun id =>
  if id = 0 then some { X := Nat, σ := fun k => ⟨4, [(0, .one (.sl 0)), (1, .one (.sl 1)), (7, .one (.sl 2)), (27, .one (.sl 3)), (28, .one (.int .i64 (a ++ b).length)), (29, .one (.int .i64 k))], [(0, .imm 172 sPt a), (1, .imm 172 sPt b), (2, .map (keysS ((a ++ b).take k) [])), (3, .own 172 sPt (a ++ b))]⟩, inv := fun k => k ≤ (a ++ b).length ∧ mergeE a b = 0, mu := fun k => (a ++ b).length - k }
  else if id = 2 then some { X := List Nat, σ := fun seen => ⟨5, [(0, .one (.sl 0)), (1, .one (.sl 1)), (10, .one (.sl 4)), (38, .one (.sl 3))], [(0, .imm 172 sPt a), (1, .imm 172 sPt b), (2, .map (mergeK a b)), (3, .iter 2 (mergeK a b) seen), (4, .own 172 sPt (seenO a b (mergeK a b) seen))]⟩, inv := fun seen => seen.Nodup ∧ (∀ p ∈ seen, p < (mergeK a b).length) ∧ mergeE a b = 0, mu := fun seen => (mergeK a b).length - seen.length }
  else none
theorem vc53 : ∀ (a b : List (Int × Int)), wpF Tryz.prog G131 (annMerged a b) Tryz.f53 cMerged (a, b, ()) = ((2 : Nat) ≤ (1000000 : Nat) ∧ ((firstS [ordersS a, ordersS b] != (0 : Int)) = true → [] = (mergedF a b).fst ∧ firstS [ordersS a, ordersS b] = (mergedF a b).snd) ∧ ((firstS [ordersS a, ordersS b] != (0 : Int)) = false → ((2 : Nat) ≤ (1000 : Nat) ∧ ∀ (x : List (Int × Int)), x ∈ [a, b] → List.length x ≤ (1000 : Nat)) ∧ ∃ (x : Nat), ((↑(List.length (List.flatten [a, b])) : Int) = (↑(List.length (a ++ b)) : Int) ∧ (0 : Int) = (↑x : Int) ∧ a = a ∧ b = b ∧ [] = keysS (List.take x (a ++ b)) [] ∧ a ++ List.flatten [b] = a ++ b) ∧ (x ≤ List.length (a ++ b) ∧ mergeE a b = (0 : Int)) ∧ ∀ (x : Nat), x ≤ List.length (a ++ b) ∧ mergeE a b = (0 : Int) → (decide ((↑x : Int) < (↑(List.length (a ++ b)) : Int)) = true → (((0 : Int) ≤ (↑x : Int) ∧ (↑x : Int) < (↑(List.length (a ++ b)) : Int)) ∧ (0 : Int) ≤ (↑x : Int) ∧ (↑x : Int) < (↑(List.length (a ++ b)) : Int)) ∧ ((-9223372036854775808 : Int) ≤ (↑x : Int) + (1 : Int) ∧ (↑x : Int) + (1 : Int) ≤ (9223372036854775807 : Int)) ∧ ∃ (y : Nat), ((↑(List.length (a ++ b)) : Int) = (↑(List.length (a ++ b)) : Int) ∧ (↑x : Int) + (1 : Int) = (↑y : Int) ∧ a = a ∧ b = b ∧ (match List.contains (keysS (List.take x (a ++ b)) []) (List.getD (a ++ b) x ((0 : Int), (0 : Int))).fst with | true => keysS (List.take x (a ++ b)) [] | false => keysS (List.take x (a ++ b)) [] ++ [(List.getD (a ++ b) x ((0 : Int), (0 : Int))).fst]) = keysS (List.take y (a ++ b)) [] ∧ a ++ b = a ++ b) ∧ (y ≤ List.length (a ++ b) ∧ mergeE a b = (0 : Int)) ∧ List.length (a ++ b) - y < List.length (a ++ b) - x) ∧ (decide ((↑x : Int) < (↑(List.length (a ++ b)) : Int)) = false → ∃ (x_1 : List Nat), (a = a ∧ b = b ∧ keysS (List.take x (a ++ b)) [] = mergeK a b ∧ keysS (List.take x (a ++ b)) [] = mergeK a b ∧ [] = x_1 ∧ List.length (seenO a b (mergeK a b) x_1) = (0 : Nat)) ∧ (List.Nodup x_1 ∧ (∀ (p : Nat), p ∈ x_1 → p < List.length (mergeK a b)) ∧ mergeE a b = (0 : Int)) ∧ ∀ (x : List Nat), List.Nodup x ∧ (∀ (p : Nat), p ∈ x → p < List.length (mergeK a b)) ∧ mergeE a b = (0 : Int) → mergeK a b = mergeK a b ∧ (∀ (p : Nat), p < List.length (mergeK a b) → (p ∈ x → False) → (true = true → (mergeK a b = mergeK a b ∧ (x ++ [p] = [] → False) ∧ List.getLastD (x ++ [p]) (0 : Nat) < List.length (mergeK a b)) ∧ (List.length a ≤ (1000000 : Nat) ∧ List.length b ≤ (1000000 : Nat) ∧ ((-9223372036854775808 : Int) ≤ askedS a (List.getD (mergeK a b) (List.getLastD (x ++ [p]) (0 : Nat)) (0 : Int)) + askedS b (List.getD (mergeK a b) (List.getLastD (x ++ [p]) (0 : Nat)) (0 : Int)) ∧ askedS a (List.getD (mergeK a b) (List.getLastD (x ++ [p]) (0 : Nat)) (0 : Int)) + askedS b (List.getD (mergeK a b) (List.getLastD (x ++ [p]) (0 : Nat)) (0 : Int)) ≤ (9223372036854775807 : Int)) ∧ (List.length (seenO a b (mergeK a b) x) + (1 : Nat)) * (16 : Nat) ≤ (140737488355328 : Nat)) ∧ ∃ (y : List Nat), (a = a ∧ b = b ∧ mergeK a b = mergeK a b ∧ mergeK a b = mergeK a b ∧ x ++ [p] = y ∧ seenO a b (mergeK a b) x ++ [(List.getD (mergeK a b) (List.getLastD (x ++ [p]) (0 : Nat)) (0 : Int), askedS a (List.getD (mergeK a b) (List.getLastD (x ++ [p]) (0 : Nat)) (0 : Int)) + askedS b (List.getD (mergeK a b) (List.getLastD (x ++ [p]) (0 : Nat)) (0 : Int)))] = seenO a b (mergeK a b) y) ∧ (List.Nodup y ∧ (∀ (p : Nat), p ∈ y → p < List.length (mergeK a b)) ∧ mergeE a b = (0 : Int)) ∧ List.length (mergeK a b) - List.length y < List.length (mergeK a b) - List.length x) ∧ (true = false → (tickNe (seenO a b (mergeK a b) x) ∧ List.length (seenO a b (mergeK a b) x) ≤ (1000000 : Nat)) ∧ (List.length (isortT (seenO a b (mergeK a b) x)) ≤ (1000000 : Nat) ∧ ∀ (x_2 : Int × Int), x_2 ∈ isortT (seenO a b (mergeK a b) x) → True) ∧ (2 : Nat) ≤ (1000000 : Nat) ∧ ((firstS [bif decide ((32 : Int) < (↑(List.length (isortT (seenO a b (mergeK a b) x))) : Int)) then (5 : Int) else (0 : Int), bif decide ((0 : Int) ≤ idxS (fun (x : Int × Int) => match withinS x.snd (-1000 : Int) (1000 : Int) == (0 : Int) with | true => false | false => true) (isortT (seenO a b (mergeK a b) x)) (0 : Int)) then (4 : Int) else (0 : Int)] != (0 : Int)) = true → [] = (mergedF a b).fst ∧ firstS [bif decide ((32 : Int) < (↑(List.length (isortT (seenO a b (mergeK a b) x))) : Int)) then (5 : Int) else (0 : Int), bif decide ((0 : Int) ≤ idxS (fun (x : Int × Int) => match withinS x.snd (-1000 : Int) (1000 : Int) == (0 : Int) with | true => false | false => true) (isortT (seenO a b (mergeK a b) x)) (0 : Int)) then (4 : Int) else (0 : Int)] = (mergedF a b).snd) ∧ ((firstS [bif decide ((32 : Int) < (↑(List.length (isortT (seenO a b (mergeK a b) x))) : Int)) then (5 : Int) else (0 : Int), bif decide ((0 : Int) ≤ idxS (fun (x : Int × Int) => match withinS x.snd (-1000 : Int) (1000 : Int) == (0 : Int) with | true => false | false => true) (isortT (seenO a b (mergeK a b) x)) (0 : Int)) then (4 : Int) else (0 : Int)] != (0 : Int)) = false → isortT (seenO a b (mergeK a b) x) = (mergedF a b).fst ∧ (0 : Int) = (mergedF a b).snd))) ∧ ((∀ (p : Nat), p < List.length (mergeK a b) → p ∈ x) → (false = true → (mergeK a b = mergeK a b ∧ (x = [] → False) ∧ List.getLastD x (0 : Nat) < List.length (mergeK a b)) ∧ (List.length a ≤ (1000000 : Nat) ∧ List.length b ≤ (1000000 : Nat) ∧ ((-9223372036854775808 : Int) ≤ askedS a (List.getD (mergeK a b) (List.getLastD x (0 : Nat)) (0 : Int)) + askedS b (List.getD (mergeK a b) (List.getLastD x (0 : Nat)) (0 : Int)) ∧ askedS a (List.getD (mergeK a b) (List.getLastD x (0 : Nat)) (0 : Int)) + askedS b (List.getD (mergeK a b) (List.getLastD x (0 : Nat)) (0 : Int)) ≤ (9223372036854775807 : Int)) ∧ (List.length (seenO a b (mergeK a b) x) + (1 : Nat)) * (16 : Nat) ≤ (140737488355328 : Nat)) ∧ ∃ (y : List Nat), (a = a ∧ b = b ∧ mergeK a b = mergeK a b ∧ mergeK a b = mergeK a b ∧ x = y ∧ seenO a b (mergeK a b) x ++ [(List.getD (mergeK a b) (List.getLastD x (0 : Nat)) (0 : Int), askedS a (List.getD (mergeK a b) (List.getLastD x (0 : Nat)) (0 : Int)) + askedS b (List.getD (mergeK a b) (List.getLastD x (0 : Nat)) (0 : Int)))] = seenO a b (mergeK a b) y) ∧ (List.Nodup y ∧ (∀ (p : Nat), p ∈ y → p < List.length (mergeK a b)) ∧ mergeE a b = (0 : Int)) ∧ List.length (mergeK a b) - List.length y < List.length (mergeK a b) - List.length x) ∧ (false = false → (tickNe (seenO a b (mergeK a b) x) ∧ List.length (seenO a b (mergeK a b) x) ≤ (1000000 : Nat)) ∧ (List.length (isortT (seenO a b (mergeK a b) x)) ≤ (1000000 : Nat) ∧ ∀ (x_2 : Int × Int), x_2 ∈ isortT (seenO a b (mergeK a b) x) → True) ∧ (2 : Nat) ≤ (1000000 : Nat) ∧ ((firstS [bif decide ((32 : Int) < (↑(List.length (isortT (seenO a b (mergeK a b) x))) : Int)) then (5 : Int) else (0 : Int), bif decide ((0 : Int) ≤ idxS (fun (x : Int × Int) => match withinS x.snd (-1000 : Int) (1000 : Int) == (0 : Int) with | true => false | false => true) (isortT (seenO a b (mergeK a b) x)) (0 : Int)) then (4 : Int) else (0 : Int)] != (0 : Int)) = true → [] = (mergedF a b).fst ∧ firstS [bif decide ((32 : Int) < (↑(List.length (isortT (seenO a b (mergeK a b) x))) : Int)) then (5 : Int) else (0 : Int), bif decide ((0 : Int) ≤ idxS (fun (x : Int × Int) => match withinS x.snd (-1000 : Int) (1000 : Int) == (0 : Int) with | true => false | false => true) (isortT (seenO a b (mergeK a b) x)) (0 : Int)) then (4 : Int) else (0 : Int)] = (mergedF a b).snd) ∧ ((firstS [bif decide ((32 : Int) < (↑(List.length (isortT (seenO a b (mergeK a b) x))) : Int)) then (5 : Int) else (0 : Int), bif decide ((0 : Int) ≤ idxS (fun (x : Int × Int) => match withinS x.snd (-1000 : Int) (1000 : Int) == (0 : Int) with | true => false | false => true) (isortT (seenO a b (mergeK a b) x)) (0 : Int)) then (4 : Int) else (0 : Int)] != (0 : Int)) = false → isortT (seenO a b (mergeK a b) x) = (mergedF a b).fst ∧ (0 : Int) = (mergedF a b).snd)))))) := by
  intros
  kernel_rfl
theorem wp53 (a b : List (Int × Int)) : wpF Tryz.prog G131 (annMerged a b) Tryz.f53 cMerged (a, b, ()) := by
  refine (vc53 a b).mpr ?_
  have hE : firstS [ordersS a, ordersS b] = mergeE a b := rfl
  rw [hE]
  refine ⟨by omega, fun h => ?_, fun h => ?_⟩
  · have h0 := bne_iff_ne.1 h
    simp [mergedF, h0]
  · have h0 := bne_eq_false_iff_eq.1 h
    have h0' := h0
    unfold mergeE at h0'
    rw [firstS_zero, firstS_zero] at h0'
    have la := orders_len h0'.1
    have lb := orders_len h0'.2.1
    have oa := orders_all h0'.1
    have ob := orders_all h0'.2.1
    have hk := keysS_ok (l := a ++ b) (ks := []) List.nodup_nil
    have hkn : (mergeK a b).Nodup := hk.1
    have hkl : (mergeK a b).length ≤ 64 := by
      have := hk.2
      simp only [List.length_append, List.length_nil] at this
      show (keysS (a ++ b) []).length ≤ 64
      omega
    have hab : (a ++ b).length = a.length + b.length := List.length_append
    have e1 : [a, b].flatten = a ++ b := by simp
    refine ⟨⟨by omega, fun x hx => ?_⟩, (0 : Nat), by simp [keysS], ⟨Nat.zero_le _, h0⟩, fun (k : Nat) hk => ⟨fun h => ?_, fun h => ?_⟩⟩
    · have : x = a ∨ x = b := by simpa using hx
      rcases this with rfl | rfl <;> omega
    · have hlt : k < (a ++ b).length := by have := of_decide_eq_true h; omega
      refine ⟨⟨⟨by omega, by omega⟩, by omega, by omega⟩, ⟨by omega, by omega⟩, (k + 1 : Nat), ⟨rfl, by simp, rfl, rfl, ?_, rfl⟩, ⟨by omega, h0⟩, by omega⟩
      rw [← take_snoc (d := (0, 0)) hlt, keysS_snoc]
      rfl
    · have hlt : ¬ k < (a ++ b).length := by have := of_decide_eq_false h; omega
      have ek : keysS ((a ++ b).take k) [] = mergeK a b := by rw [List.take_of_length_le (by omega)]; rfl
      rw [ek]
      refine ⟨[], ⟨rfl, rfl, rfl, rfl, rfl, rfl⟩, ⟨List.nodup_nil, fun p hp => by simp at hp, h0⟩, fun (seen : List Nat) hs => ⟨rfl, fun p hp hps => ⟨fun _ => ?_, fun h => (by cases h)⟩, fun hall => ⟨fun h => (by cases h), fun _ => ?_⟩⟩⟩
      · obtain ⟨s1, s2, _⟩ := hs
        have hl : (seen ++ [p]).getLastD 0 = p := by simp [List.getLastD_eq_getLast?]
        have hn : (seen ++ [p]).Nodup := List.nodup_append.2 ⟨s1, by simp, fun x hx y hy => by
          have : y = p := by simpa using hy
          subst this
          rintro rfl
          exact hps hx⟩
        have ha : ∀ q ∈ seen ++ [p], q < (mergeK a b).length := fun q hq => by
          rcases List.mem_append.1 hq with hq | hq
          · exact s2 q hq
          · have : q = p := by simpa using hq
            subst this; exact hp
        have hlen := nodup_len _ hn ha
        rw [List.length_append] at hlen
        have hlen : seen.length + 1 ≤ (mergeK a b).length := hlen
        have hsl : (seenO a b (mergeK a b) seen).length = seen.length := by simp [seenO]
        have b1 := asked_bd (t := (mergeK a b).getD p 0) (l := a) (p := 0) (fun x hx => (oa x hx).2) ⟨by decide, by decide⟩
        have b2 := asked_bd (t := (mergeK a b).getD p 0) (l := b) (p := 0) (fun x hx => (ob x hx).2) ⟨by decide, by decide⟩
        have q1 : askedS a ((mergeK a b).getD p 0) = askedGo ((mergeK a b).getD p 0) a 0 := rfl
        have q2 : askedS b ((mergeK a b).getD p 0) = askedGo ((mergeK a b).getD p 0) b 0 := rfl
        rw [hl, hsl]
        refine ⟨⟨rfl, by simp, hp⟩, ⟨by omega, by omega, ⟨by omega, by omega⟩, by omega⟩, seen ++ [p], ⟨rfl, rfl, rfl, rfl, rfl, ?_⟩, ⟨hn, ha, h0⟩, by rw [List.length_append]; simp; omega⟩
        simp only [seenO, List.map_append, List.map_cons, List.map_nil]
        rfl
      · obtain ⟨s1, s2, _⟩ := hs
        have hp := seen_perm (a := a) (b := b) s1 s2 hall
        have ht : tickNe (seenO a b (mergeK a b) seen) := tickNe_perm hp.symm (keys_tickNe hkn)
        have hO : isortT (seenO a b (mergeK a b) seen) = mergeO a b := isort_same hp ht
        have hl : (mergeO a b).length = (mergeK a b).length := by
          show (isortT _).length = _
          rw [(isort_perm _).length_eq, List.length_map]
        have hsl : (seenO a b (mergeK a b) seen).length = (mergeK a b).length := by rw [hp.length_eq, List.length_map]
        rw [hO]
        change _ ∧ _ ∧ _ ∧ ((mergeE2 a b != 0) = true → [] = (mergedF a b).1 ∧ mergeE2 a b = (mergedF a b).2) ∧ ((mergeE2 a b != 0) = false → mergeO a b = (mergedF a b).1 ∧ 0 = (mergedF a b).2)
        refine ⟨⟨ht, by omega⟩, ⟨by omega, fun _ _ => trivial⟩, by omega, fun h => ?_, fun h => ?_⟩
        · have h1 := bne_iff_ne.1 h
          simp [mergedF, h0, h1]
        · have h1 := bne_eq_false_iff_eq.1 h
          simp [mergedF, h0, h1]
theorem ok53 : Ok Tryz.prog 53 cMerged := ok_of_wp mixed g131 (by kernel_rfl) (by kernel_rfl) (fun xx => annMerged xx.1 xx.2.1) fun xx => wp53 xx.1 xx.2.1
abbrev G132 : Gam := (53, cMerged) :: G131
theorem g132 : GamOk Tryz.prog G132 := .cons ok53 g131
end Go.Proofs.YtacaadhlobbemaaGreatDoor
namespace Go.Proofs.YtacaadhlobbemaaGreatDoor
open Go.Sx
def riseT (l : List (Int × Int)) : Prop := l.Pairwise fun x y => x.1 < y.1
theorem orders_rise_go : ∀ {l : List (Int × Int)} {t : Int}, ordersGo l t = 0 → riseT l ∧ ∀ x ∈ l, t < x.1
  | [], _, _ => ⟨List.Pairwise.nil, by simp⟩
  | x :: r, t, h => by
    unfold ordersGo at h
    by_cases h0 : firstS [withinS x.1 0 100000, withinS x.2 (-1000) 1000, bif decide (x.1 ≤ t) then 11 else 0] = 0
    · simp only [h0, ne_eq, not_true, if_false] at h
      have ih := orders_rise_go h
      rw [firstS_zero, firstS_zero, firstS_zero] at h0
      have ht : t < x.1 := by
        by_cases hx : x.1 ≤ t
        · have := h0.2.2.1
          rw [decide_eq_true hx] at this
          simp at this
        · omega
      refine ⟨List.pairwise_cons.2 ⟨ih.2, ih.1⟩, fun y hy => ?_⟩
      rcases List.mem_cons.1 hy with rfl | hy
      · exact ht
      · exact Int.lt_trans ht (ih.2 y hy)
    · simp only [ne_eq, h0, not_false_eq_true, if_true] at h
theorem orders_rise {l : List (Int × Int)} (h : ordersS l = 0) : riseT l := by
  unfold ordersS at h
  split at h
  · simp at h
  · exact (orders_rise_go h).1
theorem mergeT_mem {t : Int} : ∀ {f : Nat} {a b : List (Int × Int)}, a.length + b.length ≤ f → (t ∈ mergeT f a b ↔ t ∈ a.map (·.1) ∨ t ∈ b.map (·.1))
  | 0, a, b, h => by
    have ha : a = [] := List.eq_nil_of_length_eq_zero (by omega)
    have hb : b = [] := List.eq_nil_of_length_eq_zero (by omega)
    subst ha; subst hb
    simp [mergeT]
  | f + 1, [], [], _ => by simp [mergeT]
  | f + 1, x :: a, [], h => by
    have ih := mergeT_mem (t := t) (f := f) (a := a) (b := []) (by simp at h ⊢; omega)
    simp only [mergeT, List.mem_cons, ih, List.map_cons]
    simp
  | f + 1, [], y :: b, h => by
    have ih := mergeT_mem (t := t) (f := f) (a := []) (b := b) (by simp at h ⊢; omega)
    simp only [mergeT, List.mem_cons, ih, List.map_cons]
    simp
  | f + 1, x :: a, y :: b, h => by
    simp only [List.length_cons] at h
    have i1 := mergeT_mem (t := t) (f := f) (a := a) (b := y :: b) (by simp only [List.length_cons]; omega)
    have i2 := mergeT_mem (t := t) (f := f) (a := x :: a) (b := b) (by simp only [List.length_cons]; omega)
    have i3 := mergeT_mem (t := t) (f := f) (a := a) (b := b) (by omega)
    simp only [mergeT]
    split
    · rw [List.mem_cons, i1]
      simp only [List.map_cons, List.mem_cons]
      exact or_assoc.symm
    · split
      · rw [List.mem_cons, i2]
        simp only [List.map_cons, List.mem_cons]
        constructor
        · rintro (h | h | h)
          · exact .inr (.inl h)
          · exact .inl h
          · exact .inr (.inr h)
        · rintro (h | h | h)
          · exact .inr (.inl h)
          · exact .inl h
          · exact .inr (.inr h)
      · rename_i h1 h2
        have e : x.1 = y.1 := by omega
        rw [List.mem_cons, i3]
        simp only [List.map_cons, List.mem_cons, ← e]
        constructor
        · rintro (h | h | h)
          · exact .inl (.inl h)
          · exact .inl (.inr h)
          · exact .inr (.inr h)
        · rintro ((h | h) | h | h)
          · exact .inl h
          · exact .inr (.inl h)
          · exact .inl h
          · exact .inr (.inr h)
theorem mergeT_rise : ∀ {f : Nat} {a b : List (Int × Int)}, a.length + b.length ≤ f → riseT a → riseT b → (mergeT f a b).Pairwise (· < ·)
  | 0, a, b, h, _, _ => by simp [mergeT]
  | f + 1, [], [], _, _, _ => by simp [mergeT]
  | f + 1, x :: a, [], h, ha, hb => by
    have hl : a.length + ([] : List (Int × Int)).length ≤ f := by simp at h ⊢; omega
    have ha' := List.pairwise_cons.1 ha
    simp only [mergeT]
    refine List.pairwise_cons.2 ⟨fun t ht => ?_, mergeT_rise hl ha'.2 hb⟩
    rcases (mergeT_mem hl).1 ht with h | h
    · obtain ⟨z, hz, rfl⟩ := List.mem_map.1 h
      exact ha'.1 z hz
    · simp at h
  | f + 1, [], y :: b, h, ha, hb => by
    have hl : ([] : List (Int × Int)).length + b.length ≤ f := by simp at h ⊢; omega
    have hb' := List.pairwise_cons.1 hb
    simp only [mergeT]
    refine List.pairwise_cons.2 ⟨fun t ht => ?_, mergeT_rise hl ha hb'.2⟩
    rcases (mergeT_mem hl).1 ht with h | h
    · simp at h
    · obtain ⟨z, hz, rfl⟩ := List.mem_map.1 h
      exact hb'.1 z hz
  | f + 1, x :: a, y :: b, h, ha, hb => by
    simp only [List.length_cons] at h
    have ha' := List.pairwise_cons.1 ha
    have hb' := List.pairwise_cons.1 hb
    simp only [mergeT]
    split
    · rename_i hxy
      have hl : a.length + (y :: b).length ≤ f := by simp only [List.length_cons]; omega
      refine List.pairwise_cons.2 ⟨fun t ht => ?_, mergeT_rise hl ha'.2 hb⟩
      rcases (mergeT_mem hl).1 ht with h | h
      · obtain ⟨z, hz, rfl⟩ := List.mem_map.1 h
        exact ha'.1 z hz
      · obtain ⟨z, hz, rfl⟩ := List.mem_map.1 h
        rcases List.mem_cons.1 hz with rfl | hz
        · exact hxy
        · exact Int.lt_trans hxy (hb'.1 z hz)
    · split
      · rename_i hxy
        have hl : (x :: a).length + b.length ≤ f := by simp only [List.length_cons]; omega
        refine List.pairwise_cons.2 ⟨fun t ht => ?_, mergeT_rise hl ha hb'.2⟩
        rcases (mergeT_mem hl).1 ht with h | h
        · obtain ⟨z, hz, rfl⟩ := List.mem_map.1 h
          rcases List.mem_cons.1 hz with rfl | hz
          · exact hxy
          · exact Int.lt_trans hxy (ha'.1 z hz)
        · obtain ⟨z, hz, rfl⟩ := List.mem_map.1 h
          exact hb'.1 z hz
      · rename_i h1 h2
        have e : x.1 = y.1 := by omega
        have hl : a.length + b.length ≤ f := by omega
        refine List.pairwise_cons.2 ⟨fun t ht => ?_, mergeT_rise hl ha'.2 hb'.2⟩
        rcases (mergeT_mem hl).1 ht with h | h
        · obtain ⟨z, hz, rfl⟩ := List.mem_map.1 h
          exact ha'.1 z hz
        · obtain ⟨z, hz, rfl⟩ := List.mem_map.1 h
          rw [e]
          exact hb'.1 z hz
theorem insKey_mem {ks : List Int} {k t : Int} : t ∈ insKey ks k ↔ t = k ∨ t ∈ ks := by
  unfold insKey
  cases h : ks.contains k with
  | true =>
    have hk : k ∈ ks := by simpa using h
    simp only [cond_true]
    constructor
    · exact .inr
    · rintro (rfl | h)
      · exact hk
      · exact h
  | false =>
    simp only [cond_false, List.mem_append, List.mem_singleton]
    exact or_comm
theorem keysS_mem {t : Int} : ∀ {l : List (Int × Int)} {ks : List Int}, t ∈ keysS l ks ↔ t ∈ ks ∨ t ∈ l.map (·.1)
  | [], ks => by simp [keysS]
  | x :: r, ks => by
    simp only [keysS, List.map_cons, List.mem_cons]
    rw [keysS_mem, insKey_mem]
    constructor
    · rintro ((h | h) | h)
      · exact .inr (.inl h)
      · exact .inl h
      · exact .inr (.inr h)
    · rintro (h | h | h)
      · exact .inl (.inr h)
      · exact .inl (.inl h)
      · exact .inr h
theorem perm_int : ∀ {l l' : List Int}, l.Nodup → l'.Nodup → (∀ a, a ∈ l ↔ a ∈ l') → l.Perm l'
  | [], l', _, _, h => by
    have : l' = [] := List.eq_nil_iff_forall_not_mem.2 fun a ha => by have := (h a).2 ha; simp at this
    rw [this]
  | a :: l, l', hn, hn', h => by
    have ha : a ∈ l' := (h a).1 (by simp)
    have hp := List.perm_cons_erase ha
    obtain ⟨ha1, hn1⟩ := List.nodup_cons.1 hn
    refine List.Perm.trans (List.Perm.cons a (perm_int hn1 (hn'.erase a) fun b => ?_)) hp.symm
    rw [hn'.mem_erase_iff]
    constructor
    · intro hb
      exact ⟨fun e => ha1 (e ▸ hb), (h b).1 (by simp [hb])⟩
    · rintro ⟨hne, hb⟩
      rcases List.mem_cons.1 ((h b).2 hb) with rfl | hb
      · exact absurd rfl hne
      · exact hb
theorem mergeO_eq {a b : List (Int × Int)} (ha : riseT a) (hb : riseT b) : mergeO a b = (rTicks a b).map (askP a b) := by
  have hr := mergeT_rise (Nat.le_refl (a.length + b.length)) ha hb
  have hk := (keysS_ok (l := a ++ b) (ks := []) List.nodup_nil).1
  have hp : (mergeK a b).Perm (rTicks a b) := perm_int hk (hr.imp fun h => Int.ne_of_lt h) fun t => by
    rw [show mergeK a b = keysS (a ++ b) [] from rfl, keysS_mem]
    unfold rTicks
    rw [mergeT_mem (Nat.le_refl _)]
    simp
  have hp2 := hp.map (askP a b)
  refine strict_unique ((isort_perm _).trans hp2) (isort_sorted (keys_tickNe hk)) ?_
  refine List.pairwise_map.2 ?_
  exact hr
theorem idx_first {α : Type} {g : α → Int} : ∀ {l : List α} {k : Nat}, 0 ≤ idxS (fun x => g x != 0) l k ↔ firstS (l.map g) ≠ 0
  | [], k => by simp [idxS, firstS]
  | x :: r, k => by
    have ih := idx_first (g := g) (l := r) (k := k + 1)
    simp only [idxS, List.map_cons, firstS]
    by_cases h : g x = 0
    · simp only [h, bne_self_eq_false, Bool.false_eq_true, if_false, if_true]
      exact ih
    · have : (g x != 0) = true := bne_iff_ne.2 h
      simp only [this, if_true, h, if_false, ne_eq, not_false_eq_true, iff_true]
      omega
theorem merged_eq {a b : List (Int × Int)} : mergedF a b = rMergedS a b := by
  unfold mergedF rMergedS
  by_cases h0 : mergeE a b = 0
  · simp only [h0, ne_eq, not_true, if_false]
    have h0' := h0
    unfold mergeE at h0'
    rw [firstS_zero, firstS_zero] at h0'
    have e := mergeO_eq (orders_rise h0'.1) (orders_rise h0'.2.1)
    have hi := idx_first (g := fun x : Int × Int => withinS x.2 (-1000) 1000) (l := (rTicks a b).map (askP a b)) (k := 0)
    rw [List.map_map] at hi
    have hE : firstS ((rTicks a b).map ((fun x : Int × Int => withinS x.2 (-1000) 1000) ∘ askP a b)) = rMergeE a b := rfl
    rw [hE] at hi
    unfold mergeE2
    rw [e, List.length_map]
    by_cases h1 : 32 < (rTicks a b).length
    · have : decide (32 < ((rTicks a b).length : Int)) = true := decide_eq_true (by omega)
      simp [firstS, this, h1]
    · have : decide (32 < ((rTicks a b).length : Int)) = false := decide_eq_false (by omega)
      simp only [this, cond_false, h1, if_false]
      by_cases h2 : rMergeE a b = 0
      · have h3 : decide (0 ≤ idxS (fun x : Int × Int => withinS x.2 (-1000) 1000 != 0) ((rTicks a b).map (askP a b)) 0) = false := decide_eq_false fun h => hi.1 h h2
        rw [h3]
        simp [firstS, h2]
      · have h3 : decide (0 ≤ idxS (fun x : Int × Int => withinS x.2 (-1000) 1000 != 0) ((rTicks a b).map (askP a b)) 0) = true := decide_eq_true (hi.2 h2)
        rw [h3]
        simp [firstS, h2]
  · simp [h0]
theorem merged_len {a b : List (Int × Int)} : (mergedF a b).1.length ≤ 1000000 := by
  rw [merged_eq]
  unfold rMergedS
  split
  · simp
  · split
    · simp
    · split
      · simp
      · simp only [List.length_map]; omega
end Go.Proofs.YtacaadhlobbemaaGreatDoor
namespace Go.Proofs.YtacaadhlobbemaaGreatDoor
open Go.Sx
set_option maxHeartbeats 20000000
def cAwake : Con := { args := [], ress := [Bo], owns := [], pre := fun _ => [], spec := fun _ => (true, ()) }
theorem vc16 : wpF Tryz.prog G132 (na ()) Tryz.f16 cAwake () = ((2 : Nat) ≤ (1000000 : Nat) ∧ (2 : Nat) ≤ (1000000 : Nat) ∧ (2 : Nat) ≤ (1000000 : Nat) ∧ (2 : Nat) ≤ (1000000 : Nat) ∧ (((-9223372036854775808 : Int) ≤ (xAtS firstL (25 : Int)).snd + (xCrossS [firstL, secondL] (0 : Int)).snd ∧ (xAtS firstL (25 : Int)).snd + (xCrossS [firstL, secondL] (0 : Int)).snd ≤ (9223372036854775807 : Int)) ∧ ((-9223372036854775808 : Int) ≤ (xAtS firstL (25 : Int)).snd + (xCrossS [firstL, secondL] (0 : Int)).snd + (xShareS [firstL, secondL] (0 : Int)).snd ∧ (xAtS firstL (25 : Int)).snd + (xCrossS [firstL, secondL] (0 : Int)).snd + (xShareS [firstL, secondL] (0 : Int)).snd ≤ (9223372036854775807 : Int)) ∧ ((-9223372036854775808 : Int) ≤ (xAtS firstL (25 : Int)).snd + (xCrossS [firstL, secondL] (0 : Int)).snd + (xShareS [firstL, secondL] (0 : Int)).snd + (xCrossS [firstL, secondL] (51 : Int)).snd ∧ (xAtS firstL (25 : Int)).snd + (xCrossS [firstL, secondL] (0 : Int)).snd + (xShareS [firstL, secondL] (0 : Int)).snd + (xCrossS [firstL, secondL] (51 : Int)).snd ≤ (9223372036854775807 : Int)) ∧ ((-9223372036854775808 : Int) ≤ (xAtS firstL (25 : Int)).snd + (xCrossS [firstL, secondL] (0 : Int)).snd + (xShareS [firstL, secondL] (0 : Int)).snd + (xCrossS [firstL, secondL] (51 : Int)).snd + (xShareS [firstL, secondL] (51 : Int)).snd ∧ (xAtS firstL (25 : Int)).snd + (xCrossS [firstL, secondL] (0 : Int)).snd + (xShareS [firstL, secondL] (0 : Int)).snd + (xCrossS [firstL, secondL] (51 : Int)).snd + (xShareS [firstL, secondL] (51 : Int)).snd ≤ (9223372036854775807 : Int)) ∧ ((-9223372036854775808 : Int) ≤ (xAtS firstL (25 : Int)).snd + (xCrossS [firstL, secondL] (0 : Int)).snd + (xShareS [firstL, secondL] (0 : Int)).snd + (xCrossS [firstL, secondL] (51 : Int)).snd + (xShareS [firstL, secondL] (51 : Int)).snd + (movedF firstL (10 : Int)).snd ∧ (xAtS firstL (25 : Int)).snd + (xCrossS [firstL, secondL] (0 : Int)).snd + (xShareS [firstL, secondL] (0 : Int)).snd + (xCrossS [firstL, secondL] (51 : Int)).snd + (xShareS [firstL, secondL] (51 : Int)).snd + (movedF firstL (10 : Int)).snd ≤ (9223372036854775807 : Int)) ∧ (false = false → (2 : Nat) ≤ (1000000 : Nat)) ∧ (false = false → (2 : Nat) ≤ (1000000 : Nat)) ∧ (false = false → (2 : Nat) ≤ (1000000 : Nat)) ∧ (false = false → (2 : Nat) ≤ (1000000 : Nat))) ∧ (false = true → false = true) ∧ (false = false → (((-9223372036854775808 : Int) ≤ checkLossS ((1 : Int), (32 : Int), (256 : Int)) (64 : Int) + checkLossS ((1 : Int), (32 : Int), (256 : Int)) (32 : Int) ∧ checkLossS ((1 : Int), (32 : Int), (256 : Int)) (64 : Int) + checkLossS ((1 : Int), (32 : Int), (256 : Int)) (32 : Int) ≤ (9223372036854775807 : Int)) ∧ (((-9223372036854775808 : Int) ≤ checkLossS ((1 : Int), (32 : Int), (256 : Int)) (64 : Int) + checkLossS ((1 : Int), (32 : Int), (256 : Int)) (32 : Int) + if checkLossS ((1 : Int), (32 : Int), (256 : Int)) (60 : Int) = (0 : Int) then match neededS ((1 : Int), (32 : Int), (256 : Int)) (60 : Int) with | some val => (0 : Int) | none => (7 : Int) else checkLossS ((1 : Int), (32 : Int), (256 : Int)) (60 : Int)) ∧ (checkLossS ((1 : Int), (32 : Int), (256 : Int)) (64 : Int) + checkLossS ((1 : Int), (32 : Int), (256 : Int)) (32 : Int) + if checkLossS ((1 : Int), (32 : Int), (256 : Int)) (60 : Int) = (0 : Int) then match neededS ((1 : Int), (32 : Int), (256 : Int)) (60 : Int) with | some val => (0 : Int) | none => (7 : Int) else checkLossS ((1 : Int), (32 : Int), (256 : Int)) (60 : Int)) ≤ (9223372036854775807 : Int)) ∧ ((-9223372036854775808 : Int) ≤ (checkLossS ((1 : Int), (32 : Int), (256 : Int)) (64 : Int) + checkLossS ((1 : Int), (32 : Int), (256 : Int)) (32 : Int) + if checkLossS ((1 : Int), (32 : Int), (256 : Int)) (60 : Int) = (0 : Int) then match neededS ((1 : Int), (32 : Int), (256 : Int)) (60 : Int) with | some val => (0 : Int) | none => (7 : Int) else checkLossS ((1 : Int), (32 : Int), (256 : Int)) (60 : Int)) + (balanceS ((1 : Int), (32 : Int), (256 : Int)) [(64 : Int), (32 : Int), (0 : Int)]).snd ∧ (checkLossS ((1 : Int), (32 : Int), (256 : Int)) (64 : Int) + checkLossS ((1 : Int), (32 : Int), (256 : Int)) (32 : Int) + if checkLossS ((1 : Int), (32 : Int), (256 : Int)) (60 : Int) = (0 : Int) then match neededS ((1 : Int), (32 : Int), (256 : Int)) (60 : Int) with | some val => (0 : Int) | none => (7 : Int) else checkLossS ((1 : Int), (32 : Int), (256 : Int)) (60 : Int)) + (balanceS ((1 : Int), (32 : Int), (256 : Int)) [(64 : Int), (32 : Int), (0 : Int)]).snd ≤ (9223372036854775807 : Int)) ∧ ((-9223372036854775808 : Int) ≤ (checkLossS ((1 : Int), (32 : Int), (256 : Int)) (64 : Int) + checkLossS ((1 : Int), (32 : Int), (256 : Int)) (32 : Int) + if checkLossS ((1 : Int), (32 : Int), (256 : Int)) (60 : Int) = (0 : Int) then match neededS ((1 : Int), (32 : Int), (256 : Int)) (60 : Int) with | some val => (0 : Int) | none => (7 : Int) else checkLossS ((1 : Int), (32 : Int), (256 : Int)) (60 : Int)) + (balanceS ((1 : Int), (32 : Int), (256 : Int)) [(64 : Int), (32 : Int), (0 : Int)]).snd + (mergedF marketL otherL).snd ∧ (checkLossS ((1 : Int), (32 : Int), (256 : Int)) (64 : Int) + checkLossS ((1 : Int), (32 : Int), (256 : Int)) (32 : Int) + if checkLossS ((1 : Int), (32 : Int), (256 : Int)) (60 : Int) = (0 : Int) then match neededS ((1 : Int), (32 : Int), (256 : Int)) (60 : Int) with | some val => (0 : Int) | none => (7 : Int) else checkLossS ((1 : Int), (32 : Int), (256 : Int)) (60 : Int)) + (balanceS ((1 : Int), (32 : Int), (256 : Int)) [(64 : Int), (32 : Int), (0 : Int)]).snd + (mergedF marketL otherL).snd ≤ (9223372036854775807 : Int)) ∧ (false = false → (3 : Nat) ≤ (1000000 : Nat)) ∧ (false = false → (3 : Nat) ≤ (1000000 : Nat))) ∧ (false = true → false = true) ∧ (false = false → (48 : Nat) ≤ (140737488355328 : Nat) ∧ (4 : Nat) ≤ (1000000 : Nat) ∧ (((-9223372036854775808 : Int) ≤ rampE ((4 : Int), (-50 : Int), (50 : Int)) (0 : Int) (twoL ++ [((15 : Int), (-5 : Int))]) + (xRampS ((4 : Int), (-50 : Int), (50 : Int)) (0 : Int) twoL (12 : Int)).snd ∧ rampE ((4 : Int), (-50 : Int), (50 : Int)) (0 : Int) (twoL ++ [((15 : Int), (-5 : Int))]) + (xRampS ((4 : Int), (-50 : Int), (50 : Int)) (0 : Int) twoL (12 : Int)).snd ≤ (9223372036854775807 : Int)) ∧ ((-9223372036854775808 : Int) ≤ rampE ((4 : Int), (-50 : Int), (50 : Int)) (0 : Int) (twoL ++ [((15 : Int), (-5 : Int))]) + (xRampS ((4 : Int), (-50 : Int), (50 : Int)) (0 : Int) twoL (12 : Int)).snd + (xLatestS ((4 : Int), (-50 : Int), (50 : Int)) (0 : Int) twoL (1 : Int)).snd ∧ rampE ((4 : Int), (-50 : Int), (50 : Int)) (0 : Int) (twoL ++ [((15 : Int), (-5 : Int))]) + (xRampS ((4 : Int), (-50 : Int), (50 : Int)) (0 : Int) twoL (12 : Int)).snd + (xLatestS ((4 : Int), (-50 : Int), (50 : Int)) (0 : Int) twoL (1 : Int)).snd ≤ (9223372036854775807 : Int)) ∧ ((-9223372036854775808 : Int) ≤ rampE ((4 : Int), (-50 : Int), (50 : Int)) (0 : Int) (twoL ++ [((15 : Int), (-5 : Int))]) + (xRampS ((4 : Int), (-50 : Int), (50 : Int)) (0 : Int) twoL (12 : Int)).snd + (xLatestS ((4 : Int), (-50 : Int), (50 : Int)) (0 : Int) twoL (1 : Int)).snd + (xRespS ((10 : Int), (512 : Int), (20 : Int)) [(30 : Int), (-100 : Int), (10 : Int), (13 : Int)]).snd ∧ rampE ((4 : Int), (-50 : Int), (50 : Int)) (0 : Int) (twoL ++ [((15 : Int), (-5 : Int))]) + (xRampS ((4 : Int), (-50 : Int), (50 : Int)) (0 : Int) twoL (12 : Int)).snd + (xLatestS ((4 : Int), (-50 : Int), (50 : Int)) (0 : Int) twoL (1 : Int)).snd + (xRespS ((10 : Int), (512 : Int), (20 : Int)) [(30 : Int), (-100 : Int), (10 : Int), (13 : Int)]).snd ≤ (9223372036854775807 : Int)) ∧ (false = false → (12 : Nat) ≤ (1000000 : Nat)) ∧ (false = false → (4 : Nat) ≤ (1000000 : Nat))) ∧ (false = true → false = true) ∧ (false = false → (((-9223372036854775808 : Int) ≤ (runF ((100 : Int), (200 : Int), (30 : Int), (20 : Int)) ((120 : Int), (50 : Int))).snd.snd + ordersS marketL ∧ (runF ((100 : Int), (200 : Int), (30 : Int), (20 : Int)) ((120 : Int), (50 : Int))).snd.snd + ordersS marketL ≤ (9223372036854775807 : Int)) ∧ (true = true → (5 : Nat) ≤ (1000000 : Nat)) ∧ (true = true → (5 : Nat) ≤ (1000000 : Nat))) ∧ true = true)))) := by
  intros
  kernel_rfl
theorem wp16  : wpF Tryz.prog G132 (na ()) Tryz.f16 cAwake () := by
  refine vc16.mpr ?_
  have e0 : (xAtS firstL 25).2 = 0 := by kernel_rfl
  have e1 : (xCrossS [firstL, secondL] 0).2 = 0 := by kernel_rfl
  have e2 : (xShareS [firstL, secondL] 0).2 = 0 := by kernel_rfl
  have e3 : (xCrossS [firstL, secondL] 51).2 = 0 := by kernel_rfl
  have e4 : (xShareS [firstL, secondL] 51).2 = 0 := by kernel_rfl
  have e5 : (movedF firstL 10).2 = 0 := by kernel_rfl
  have e6 : checkLossS (1, 32, 256) 64 = 0 := by kernel_rfl
  have e7 : checkLossS (1, 32, 256) 32 = 0 := by kernel_rfl
  have e8 : checkLossS (1, 32, 256) 60 = 0 := by kernel_rfl
  have e9 : neededS (1, 32, 256) 60 = some 64 := by kernel_rfl
  have e10 : (balanceS (1, 32, 256) [64, 32, 0]).2 = 0 := by kernel_rfl
  have e11 : (mergedF marketL otherL).2 = 0 := by kernel_rfl
  have e12 : rampE (4, -50, 50) 0 (twoL ++ [(15, -5)]) = 0 := by kernel_rfl
  have e13 : (xRampS (4, -50, 50) 0 twoL 12).2 = 0 := by kernel_rfl
  have e14 : (xLatestS (4, -50, 50) 0 twoL 1).2 = 0 := by kernel_rfl
  have e15 : (xRespS (10, 512, 20) [30, -100, 10, 13]).2 = 0 := by kernel_rfl
  have e16 : (runF (100, 200, 30, 20) (120, 50)).2.2 = 0 := by kernel_rfl
  have e17 : ordersS marketL = 0 := by kernel_rfl
  simp only [e0, e1, e2, e3, e4, e5, e6, e7, e8, e9, e10, e11, e12, e13, e14, e15, e16, e17]
  simp
theorem ok16 : Ok Tryz.prog 16 cAwake := ok_of_wp mixed g132 (by kernel_rfl) (by kernel_rfl) na fun xx => wp16 
abbrev G133 : Gam := (16, cAwake) :: G132
theorem g133 : GamOk Tryz.prog G133 := .cons ok16 g132
end Go.Proofs.YtacaadhlobbemaaGreatDoor
namespace Go.Proofs.YtacaadhlobbemaaGreatDoor
open Go.Sx
inductive RunL (x : TrT) : Int × Int → List (Int × Int) → Prop
  | last {s : Int × Int} : s.1 ≤ x.2.1 → (s.2 = 0 ∧ s.1 ≤ x.1) → RunL x s [s]
  | step {s : Int × Int} {l : List (Int × Int)} : s.1 ≤ x.2.1 → ¬ (s.2 = 0 ∧ s.1 ≤ x.1) → RunL x (nextT x s) l → RunL x s (s :: l)
theorem runL_ne {x : TrT} {s : Int × Int} {l : List (Int × Int)} (h : RunL x s l) : 0 < l.length ∧ l.getD 0 (0, 0) = s := by
  cases h <;> simp
theorem runGo_cases {x : TrT} : ∀ {f : Nat} {i : Int} {s : Int × Int} {out : List (Int × Int)}, (∃ l, RunL x s l ∧ l.length ≤ f ∧ runGo x f i s out = (out ++ l, 0, 0)) ∨ (∃ j, i ≤ j ∧ j < i + f ∧ (j = i → x.2.1 < s.1) ∧ runGo x f i s out = ([], j, 30)) ∨ runGo x f i s out = ([], 0, 20)
  | 0, _, _, _ => .inr (.inr rfl)
  | f + 1, i, s, out => by
    unfold runGo
    by_cases h1 : x.2.1 < s.1
    · rw [if_pos h1]
      exact .inr (.inl ⟨i, Int.le_refl _, by omega, fun _ => h1, rfl⟩)
    rw [if_neg h1]
    by_cases h2 : s.2 = 0 ∧ s.1 ≤ x.1
    · rw [if_pos h2]
      exact .inl ⟨[s], .last (by omega) h2, by simp, rfl⟩
    rw [if_neg h2]
    rcases runGo_cases (x := x) (f := f) (i := i + 1) (s := nextT x s) (out := out ++ [s]) with ⟨l, i1, i2, i3⟩ | ⟨j, i1, i2, i3, i4⟩ | i1
    · exact .inl ⟨s :: l, .step (by omega) h2 i1, by simp; omega, by rw [i3]; simp⟩
    · exact .inr (.inl ⟨j, by omega, by omega, fun h => by omega, i4⟩)
    · exact .inr (.inr i1)
theorem runL_go {x : TrT} {s : Int × Int} {l : List (Int × Int)} (h : RunL x s l) : ∀ {f : Nat} {i : Int} {out : List (Int × Int)}, l.length ≤ f → runGo x f i s out = (out ++ l, 0, 0) := by
  induction h with
  | last h1 h2 =>
    intro f i out hf
    cases f with
    | zero => simp at hf
    | succ f => unfold runGo; rw [if_neg (by omega), if_pos h2]
  | step h1 h2 _ ih =>
    intro f i out hf
    cases f with
    | zero => simp at hf
    | succ f => unfold runGo; rw [if_neg (by omega), if_neg h2, ih (by simpa using hf)]; simp
theorem runL_drop {x : TrT} {s : Int × Int} {l : List (Int × Int)} (h : RunL x s l) : ∀ {k : Nat}, k < l.length → RunL x (l.getD k (0, 0)) (l.drop k) := by
  induction h with
  | @last s h1 h2 =>
    intro k hk
    have : k = 0 := by simpa using hk
    subst this
    exact .last h1 h2
  | @step s l h1 h2 h3 ih =>
    intro k hk
    cases k with
    | zero => exact .step h1 h2 h3
    | succ k => simpa using ih (k := k) (by simpa using hk)
theorem runL_at {x : TrT} {s : Int × Int} {l : List (Int × Int)} (h : RunL x s l) {k : Nat} (hk : k < l.length) : (l.getD k (0, 0)).1 ≤ x.2.1 ∧ (((l.getD k (0, 0)).2 = 0 ∧ (l.getD k (0, 0)).1 ≤ x.1) ↔ k + 1 = l.length) ∧ (k + 1 < l.length → l.getD (k + 1) (0, 0) = nextT x (l.getD k (0, 0))) := by
  have hd := runL_drop h hk
  generalize hg : l.getD k (0, 0) = q at hd
  generalize hm : l.drop k = m at hd
  have hl : m.length = l.length - k := by rw [← hm]; simp
  cases hd with
  | last h1 h2 =>
    have : l.length = k + 1 := by simp at hl; omega
    exact ⟨h1, ⟨fun _ => this.symm, fun _ => h2⟩, fun h => by omega⟩
  | @step s l' h1 h2 h3 =>
    have hn := runL_ne h3
    have : l.length = k + 1 + l'.length := by simp at hl; omega
    refine ⟨h1, ⟨fun h => absurd h h2, fun h => by omega⟩, fun h => ?_⟩
    have e : l.drop (k + 1) = l' := by rw [← List.drop_drop, hm]; rfl
    rw [← hn.2, ← e, List.getD_eq_getElem?_getD, List.getD_eq_getElem?_getD, List.getElem?_drop]
    try rfl
def lessT (x : TrT) (m : Int) : TrT := (x.1, m, x.2.2.1, x.2.2.2)
theorem runL_less {x : TrT} {m : Int} {s : Int × Int} {l : List (Int × Int)} (h : RunL x s l) (hm : x.1 ≤ m) : ∀ {f : Nat} {i : Nat} {out : List (Int × Int)}, l.length ≤ f → runGo (lessT x m) f i s out = if idxS (fun y : Int × Int => decide (m < y.1)) l i < 0 then (out ++ l, 0, 0) else ([], idxS (fun y : Int × Int => decide (m < y.1)) l i, 30) := by
  induction h with
  | @last s h1 h2 =>
    intro f i out hf
    cases f with
    | zero => simp at hf
    | succ f =>
      have e : idxS (fun y : Int × Int => decide (m < y.1)) [s] i = -1 := by
        simp only [idxS]
        rw [if_neg (by simp; omega)]
      rw [e]
      unfold runGo
      rw [if_neg (by simp only [lessT]; omega), if_pos (by simpa [lessT] using h2)]
      rfl
  | @step s l h1 h2 _ ih =>
    intro f i out hf
    cases f with
    | zero => simp at hf
    | succ f =>
      unfold runGo
      by_cases hc : m < s.1
      · have e : idxS (fun y : Int × Int => decide (m < y.1)) (s :: l) i = i := by
          simp only [idxS]
          rw [if_pos (decide_eq_true hc)]
        rw [e, if_pos (by simpa [lessT] using hc), if_neg (by omega)]
      · have e : idxS (fun y : Int × Int => decide (m < y.1)) (s :: l) i = idxS (fun y : Int × Int => decide (m < y.1)) l (i + 1 : Nat) := by
          simp only [idxS]
          rw [if_neg (by simpa using hc)]
          rfl
        rw [e, if_neg (by simpa [lessT] using hc), if_neg (by simpa [lessT] using h2)]
        have := ih (f := f) (i := i + 1) (out := out ++ [s]) (by simpa using hf)
        rw [show ((i : Int) + 1) = ((i + 1 : Nat) : Int) by omega, show nextT (lessT x m) s = nextT x s from rfl, this]
        simp
theorem runL_run {x : TrT} {s : Int × Int} {l : List (Int × Int)} (h : RunL x s l) (he : runE x s = 0) (hl : l.length ≤ 257) : runF x s = (l, 0, 0) := by
  unfold runF
  rw [if_neg (by simpa using he), runL_go h hl]
  rfl
theorem run_cases {x : TrT} {s : Int × Int} (he : runE x s = 0) : (∃ l, RunL x s l ∧ l.length ≤ 257 ∧ runF x s = (l, 0, 0)) ∨ (∃ j, 1 ≤ j ∧ j ≤ 256 ∧ runF x s = ([], j, 30)) ∨ runF x s = ([], 0, 20) := by
  have hf := runE_facts he
  have e : runF x s = runGo x 257 0 s [] := by unfold runF; rw [if_neg (by simpa using he)]
  rw [e]
  rcases runGo_cases (x := x) (f := 257) (i := 0) (s := s) (out := []) with ⟨l, i1, i2, i3⟩ | ⟨j, i1, i2, i3, i4⟩ | i1
  · exact .inl ⟨l, i1, i2, i3⟩
  · refine .inr (.inl ⟨j, ?_, by omega, i4⟩)
    by_cases hj : j = 0
    · have := i3 hj; omega
    · omega
  · exact .inr (.inr i1)
theorem withinS_in {n lo hi : Int} (h : lo ≤ n ∧ n ≤ hi) : withinS n lo hi = 0 := by
  unfold withinS
  rw [decide_eq_false (by omega), decide_eq_false (by omega)]; rfl
theorem runL_nonneg {x : TrT} {s : Int × Int} {l : List (Int × Int)} (hx : 0 ≤ x.2.2.2) (h : RunL x s l) : 0 ≤ s.1 → (0 ≤ s.2 ∧ s.2 ≤ 10000) → ∀ y ∈ l, 0 ≤ y.1 ∧ y.1 ≤ x.2.1 ∧ 0 ≤ y.2 ∧ y.2 ≤ 10000 := by
  induction h with
  | @last s h1 h2 => intro a b y hy; rw [List.mem_singleton.1 hy]; omega
  | @step s l h1 h2 h3 ih =>
    intro a b y hy
    rcases List.mem_cons.1 hy with rfl | hy
    · omega
    · refine ih ?_ ?_ y hy
      · unfold nextT; simp only; omega
      · unfold nextT; simp only; omega
theorem runE_at {x : TrT} {s : Int × Int} {l : List (Int × Int)} (he : runE x s = 0) (h : RunL x s l) {y : Int × Int} (hy : y ∈ l) : runE x y = 0 := by
  obtain ⟨t0, t1, t2⟩ := runE_facts he
  have hx := (trip_facts t0).2.2.2
  have := runL_nonneg (by omega) h t1.1 t2 y hy
  unfold runE
  rw [firstS_zero, firstS_zero, firstS_zero]
  exact ⟨t0, withinS_in (by omega), withinS_in (by omega), rfl⟩
theorem run_rest {x : TrT} {s : Int × Int} {l : List (Int × Int)} (he : runE x s = 0) (h : RunL x s l) (hl : l.length ≤ 257) {k : Nat} (hk : k < l.length) : runF x (l.getD k (0, 0)) = (l.drop k, 0, 0) :=
  runL_run (runL_drop h hk) (runE_at he h (getD_mem hk)) (by simp; omega)
theorem tripS_less {x : TrT} {m : Int} (h : tripS x = 0) (h1 : x.1 ≤ m) (h2 : m ≤ x.2.1) : tripS (lessT x m) = 0 := by
  have hf := trip_facts h
  unfold tripS at h ⊢
  simp only [firstS_zero] at h ⊢
  obtain ⟨a1, a2, a3, a4, a5, _⟩ := h
  refine ⟨a1, withinS_in (by simp only [lessT]; omega), a3, a4, ?_, rfl⟩
  rw [decide_eq_false (by simp only [lessT]; omega)]; rfl
theorem run_less {x : TrT} {s : Int × Int} {m : Int} {l : List (Int × Int)} (he : runE x s = 0) (h : RunL x s l) (hl : l.length ≤ 257) (h1 : x.1 ≤ m) (h2 : m ≤ x.2.1) (h3 : s.1 ≤ m) : runF (lessT x m) s = if idxS (fun y : Int × Int => decide (m < y.1)) l 0 < 0 then (l, 0, 0) else ([], idxS (fun y : Int × Int => decide (m < y.1)) l 0, 30) := by
  obtain ⟨t0, t1, t2⟩ := runE_facts he
  have e : runE (lessT x m) s = 0 := by
    unfold runE
    rw [firstS_zero, firstS_zero, firstS_zero]
    exact ⟨tripS_less t0 h1 h2, withinS_in (by simp only [lessT]; omega), withinS_in (by omega), rfl⟩
  have := runL_less (x := x) (m := m) h h1 (f := 257) (i := 0) (out := []) hl
  unfold runF
  rw [if_neg (by simpa using e)]
  exact this
theorem adds_facts {x : Int × Int × Int} {d : Int} (h : suppOk x) (hd : 0 ≤ d) : (addsS x d = 0 - addN x d ∧ addsS x (0 - d) = addN x d) ∧ (0 ≤ addN x d ∧ addN x d ≤ x.2.2) ∧ (d ≤ x.1 → addN x d = 0) ∧ addN x d ≤ addN x (d + 1) := by
  obtain ⟨h1, h2, h3⟩ := h
  have p0 := Int.mul_nonneg h2.1 (show 0 ≤ max 0 (max d (0 - d) - x.1) by omega)
  have p1 := Int.mul_nonneg h2.1 (show 0 ≤ max 0 (max (d + 1) (0 - (d + 1)) - x.1) by omega)
  have pm : x.2.1 * max 0 (max d (0 - d) - x.1) ≤ x.2.1 * max 0 (max (d + 1) (0 - (d + 1)) - x.1) := Int.mul_le_mul_of_nonneg_left (by omega) h2.1
  have e : addN x (0 - d) = addN x d := by
    unfold addN
    rw [show max (0 - d) (0 - (0 - d)) = max d (0 - d) by omega]
  refine ⟨⟨?_, ?_⟩, ?_, ?_, ?_⟩
  · unfold addsS
    by_cases h0 : 0 < d
    · rw [decide_eq_true h0]; rfl
    · have : d = 0 := by omega
      subst this
      have : addN x 0 = 0 := by
        unfold addN
        rw [show max 0 (max 0 (0 - 0) - x.1) = 0 by omega, Int.mul_zero, Int.zero_tdiv]
        omega
      rw [decide_eq_false h0, this]; rfl
  · unfold addsS
    rw [decide_eq_false (by omega), e]; rfl
  · unfold addN
    rw [Int.tdiv_eq_ediv_of_nonneg p0]
    omega
  · intro h0
    unfold addN
    rw [show max 0 (max d (0 - d) - x.1) = 0 by omega, Int.mul_zero, Int.zero_tdiv]
    omega
  · unfold addN
    rw [Int.tdiv_eq_ediv_of_nonneg p0, Int.tdiv_eq_ediv_of_nonneg p1]
    omega
end Go.Proofs.YtacaadhlobbemaaGreatDoor
namespace Go.Proofs.YtacaadhlobbemaaGreatDoor
open Go.Sx
def rSumGo (v : Int) : List (List (Int × Int)) → Int × Int → Int × Int
  | [], s => s
  | x :: r, s => rSumGo v r (s.1 * (rAtS x v).2 + (rAtS x v).1 * s.2, s.2 * (rAtS x v).2)
def rSumS (l : List (List (Int × Int))) (v : Int) : Int × Int := rSumGo v l (0, 1)
def rPcS (x : List (Int × Int)) (v : Int) : Int × Int × Int :=
  (segN x (rPiece x (v + 1)) v, segN x (rPiece x (v + 1)) v + (x.getD (rPiece x (v + 1)) (0, 0)).2 - (x.getD (rPiece x (v + 1) - 1) (0, 0)).2, segW x (rPiece x (v + 1)))
def rPcGo (v : Int) : List (List (Int × Int)) → Int × Int × Int → Int × Int × Int
  | [], s => s
  | x :: r, s => rPcGo v r (s.1 * (rPcS x v).2.2 + (rPcS x v).1 * s.2.2, s.2.1 * (rPcS x v).2.2 + (rPcS x v).2.1 * s.2.2, s.2.2 * (rPcS x v).2.2)
def rPcL (l : List (List (Int × Int))) (v : Int) : Int × Int × Int := rPcGo v l (0, 0, 1)
def rCrossGo (l : List (List (Int × Int))) (load hi : Int) : Int → Nat → Option (Int × Int)
  | _, 0 => none
  | v, f + 1 =>
    if (rSumS l v).1 = load * (rSumS l v).2 then some (lowestS v 1)
    else if v = hi then none
    else if load * (rPcL l v).2.2 < (rPcL l v).1 ∧ (rPcL l v).2.1 < load * (rPcL l v).2.2 then
      some (lowestS (v * (lowestS ((rPcL l v).1 - load * (rPcL l v).2.2) ((rPcL l v).1 - (rPcL l v).2.1)).2 + (lowestS ((rPcL l v).1 - load * (rPcL l v).2.2) ((rPcL l v).1 - (rPcL l v).2.1)).1) (lowestS ((rPcL l v).1 - load * (rPcL l v).2.2) ((rPcL l v).1 - (rPcL l v).2.1)).2)
    else rCrossGo l load hi (v + 1) f
def rCrossS (l : List (List (Int × Int))) (load : Int) : Option (Int × Int) := rCrossGo l load (comS l).2 (comS l).1 ((comS l).2 + 1 - (comS l).1).toNat
def rShIdx (x : List (Int × Int)) (c : Int × Int) : Nat → Nat → Nat
  | i, 0 => i
  | i, f + 1 => if (x.getD i (0, 0)).1 * c.2 < c.1 then rShIdx x c (i + 1) f else i
def rShareS (x : List (Int × Int)) (c : Int × Int) : Int × Int :=
  let j := rShIdx x c 1 x.length
  let a := x.getD (j - 1) (0, 0)
  let b := x.getD j (0, 0)
  lowestS (a.2 * (b.1 - a.1) * c.2 + (b.2 - a.2) * (c.1 - a.1 * c.2)) ((b.1 - a.1) * c.2)
def sameV (s t : Int × Int) : Prop := 0 < s.2 ∧ 0 < t.2 ∧ s.1 * t.2 = t.1 * s.2
theorem mul_cancel {a b c : Int} (h : a * c = b * c) (hc : 0 < c) : a = b := Int.eq_of_mul_eq_mul_right (Int.ne_of_gt hc) h
theorem lowest_val {n d : Int} (hd : 0 < d) : 0 < (lowestS n d).2 ∧ (lowestS n d).1 * d = n * (lowestS n d).2 ∧ (lowestS n d).2 ≤ d := by
  obtain ⟨g, p, q, hg, hn, hq, e, hc, hq0⟩ := lowest_parts (n := n) hd
  rw [e]
  refine ⟨hq0, ?_, ?_⟩
  · show p * d = n * q
    rw [hn, hq]; grind
  · show q ≤ d
    have := Int.mul_le_mul_of_nonneg_left (a := 1) (b := g) (c := q) (by omega) (by omega)
    rw [Int.mul_one] at this
    omega
theorem sameV_lowest {n d : Int} (hd : 0 < d) : sameV (lowestS n d) (n, d) := by
  have := lowest_val (n := n) hd
  exact ⟨this.1, hd, this.2.1⟩
theorem sameV_plus {s t a : Int × Int} {n d : Int} (h : sameV s t) (h' : sameV a (n, d)) : sameV (plusS s a) (t.1 * d + n * t.2, t.2 * d) := by
  obtain ⟨h1, h2, h3⟩ := h
  obtain ⟨g1, g2, g3⟩ := h'
  dsimp only at g2 g3
  have hv := plus_val h1 g1
  have hp := (plus_ok (X := max s.1 (0 - s.1)) (Y := max a.1 (0 - a.1)) h1 g1 ?_ ?_).1
  · refine ⟨hp, Int.mul_pos h2 g2, ?_⟩
    show (plusS s a).1 * (t.2 * d) = (t.1 * d + n * t.2) * (plusS s a).2
    refine mul_cancel (c := s.2 * a.2) ?_ (Int.mul_pos h1 g1)
    generalize (plusS s a).1 = p1 at *
    generalize (plusS s a).2 = p2 at *
    grind
  · have := Int.mul_le_mul_of_nonneg_left (a := 1) (b := s.2) (c := max s.1 (0 - s.1)) (by omega) (by omega)
    rw [Int.mul_one] at this
    omega
  · have := Int.mul_le_mul_of_nonneg_left (a := 1) (b := a.2) (c := max a.1 (0 - a.1)) (by omega) (by omega)
    rw [Int.mul_one] at this
    omega
theorem sameV_cmp {s t : Int × Int} (h : sameV s t) (L : Int) : (s.1 - L * s.2 = 0 ↔ t.1 = L * t.2) ∧ (s.1 - L * s.2 < 0 ↔ t.1 < L * t.2) := by
  obtain ⟨h1, h2, h3⟩ := h
  have e : (s.1 - L * s.2) * t.2 = (t.1 - L * t.2) * s.2 := by grind
  have c : ∀ {u p w q : Int}, 0 < p → 0 < q → u * p = w * q → (u = 0 ↔ w = 0) ∧ (u < 0 ↔ w < 0) := by
    intro u p w q hp hq hh
    have k1 : ∀ {u p : Int}, 0 < p → (u < 0 → u * p < 0) ∧ (u = 0 → u * p = 0) ∧ (0 < u → 0 < u * p) := by
      intro u p hp
      exact ⟨fun h => Int.mul_neg_of_neg_of_pos h hp, fun h => by rw [h, Int.zero_mul], fun h => Int.mul_pos h hp⟩
    have a := k1 (u := u) hp
    have b := k1 (u := w) hq
    generalize u * p = x at *
    generalize w * q = y at *
    constructor <;> constructor <;> intro hz <;> omega
  have := c h2 h1 e
  generalize s.1 - L * s.2 = u at *
  generalize L * t.2 = w at *
  omega
theorem at_same {x : List (Int × Int)} {v : Int} {j : Nat} (h : lineS x = 0) (hj : inSeg x j v) : sameV (atS x v) (segN x j v, segW x j) := by
  have hg := (line_ok h).2
  have hv : inS x v := by
    obtain ⟨j1, j2, j3, j4⟩ := hj
    have m : ∀ {i k : Nat}, i ≤ k → k < x.length → (x.getD i (0, 0)).1 ≤ (x.getD k (0, 0)).1 := by
      intro i k hik hk
      by_cases e : i = k
      · rw [e]; exact Int.le_refl _
      · exact Int.le_of_lt (volt_mono hg (by omega) hk)
    have m1 := m (i := 0) (k := j - 1) (by omega) (by omega)
    have m2 := m (i := j) (k := x.length - 1) (by omega) (by omega)
    exact ⟨by omega, by omega⟩
  obtain ⟨k, hk, e⟩ := atS_seg h hv
  rw [e, seg_same hg hk hj]
  exact sameV_lowest (segW_pos hg hj)
theorem checkAt_of {x : List (Int × Int)} {v : Int} (h : lineS x = 0) (hv : inS x v) : checkAtS x v = 0 := by
  unfold checkAtS
  rw [if_neg (by simpa using h)]
  have : hasS x v = true := by
    unfold hasS
    rw [decide_eq_true hv.1, decide_eq_true hv.2]; rfl
  rw [if_pos this]
def inAll (l : List (List (Int × Int))) (v : Int) : Prop := ∀ x ∈ l, lineS x = 0 ∧ inS x v
theorem sumGo_same {v : Int} : ∀ {l : List (List (Int × Int))} {s t : Int × Int}, inAll l v → sameV s t → sameV (sumGo v l s) (rSumGo v l t)
  | [], _, _, _, h => h
  | x :: r, s, t, hl, h => by
    have hx := hl x (by simp)
    have hr := rAt_seg (checkAt_of hx.1 hx.2)
    have ha := at_same hx.1 hr.1
    rw [← hr.2] at ha
    exact sumGo_same (t := (t.1 * (rAtS x v).2 + (rAtS x v).1 * t.2, t.2 * (rAtS x v).2)) (fun y hy => hl y (by simp [hy])) (sameV_plus (n := (rAtS x v).1) (d := (rAtS x v).2) h ha)
theorem sum_same {l : List (List (Int × Int))} {v : Int} (h : inAll l v) : sameV (sumS l v) (rSumS l v) := sumGo_same h ⟨by decide, by decide, rfl⟩
theorem rPc_seg {x : List (Int × Int)} {v : Int} (h : lineS x = 0) (hv : inS x v) (hv' : inS x (v + 1)) : inSeg x (rPiece x (v + 1)) v ∧ inSeg x (rPiece x (v + 1)) (v + 1) ∧ v < (x.getD (rPiece x (v + 1)) (0, 0)).1 := by
  obtain ⟨h1, _⟩ := rAt_seg (checkAt_of h hv')
  obtain ⟨j1, j2, j3, j4⟩ := h1
  have key : ∀ {f i : Nat}, 1 ≤ i → (x.getD (i - 1) (0, 0)).1 ≤ v → (x.getD (rIdx x (v + 1) i f - 1) (0, 0)).1 ≤ v := by
    intro f
    induction f with
    | zero => intro i _ h; exact h
    | succ f ih =>
      intro i h1 h2
      unfold rIdx
      split
      · exact ih (by omega) (by simp only [Nat.add_sub_cancel]; omega)
      · exact h2
  have := key (f := x.length) (i := 1) (by omega) hv.1
  exact ⟨⟨j1, j2, this, by omega⟩, ⟨j1, j2, j3, j4⟩, by omega⟩
theorem rPc_next {x : List (Int × Int)} {v : Int} : (rPcS x v).2.1 = segN x (rPiece x (v + 1)) (v + 1) ∧ (rPcS x v).1 = segN x (rPiece x (v + 1)) v ∧ (rPcS x v).2.2 = segW x (rPiece x (v + 1)) := by
  refine ⟨?_, rfl, rfl⟩
  unfold rPcS segN
  dsimp only
  grind
def pcI (k : Nat) (s : Int × Int × Int) : Prop := (0 < s.2.2 ∧ s.2.2 ≤ 1000 ^ k) ∧ (-(1000 * k * s.2.2) ≤ s.1 ∧ s.1 ≤ 1000 * k * s.2.2) ∧ (-(1000 * k * s.2.2) ≤ s.2.1 ∧ s.2.1 ≤ 1000 * k * s.2.2) ∧ s.2.1 ≤ s.1 ∧ 1000 * (s.1 - s.2.1) ≤ 2000 * k * 1000 ^ k
theorem pcI_zero : pcI 0 (0, 0, 1) := by unfold pcI; simp
theorem rPc_bd {x : List (Int × Int)} {v : Int} (h : lineS x = 0) (hv : inS x v) (hv' : inS x (v + 1)) : (-1000 * (rPcS x v).2.2 ≤ (rPcS x v).1 ∧ (rPcS x v).1 ≤ 1000 * (rPcS x v).2.2) ∧ (-1000 * (rPcS x v).2.2 ≤ (rPcS x v).2.1 ∧ (rPcS x v).2.1 ≤ 1000 * (rPcS x v).2.2) ∧ (1 ≤ (rPcS x v).2.2 ∧ (rPcS x v).2.2 ≤ 1000) ∧ (rPcS x v).2.1 < (rPcS x v).1 ∧ (rPcS x v).1 - (rPcS x v).2.1 ≤ 2000 := by
  obtain ⟨s1, s2, s3⟩ := rPc_seg h hv hv'
  obtain ⟨e1, e2, e3⟩ := rPc_next (x := x) (v := v)
  have b1 := seg_bd h s1
  have b2 := seg_bd h s2
  obtain ⟨ho, hg⟩ := line_ok h
  have a0 := (line_at hg (k := rPiece x (v + 1) - 1) (by have := s1.2.1; omega)).1
  have b0 := line_at hg (k := rPiece x (v + 1)) s1.2.1
  have b3 := (b0.2 (by have := s1.1; omega)).2
  have b0 := b0.1
  have e4 : (rPcS x v).2.1 = (rPcS x v).1 + (x.getD (rPiece x (v + 1)) (0, 0)).2 - (x.getD (rPiece x (v + 1) - 1) (0, 0)).2 := rfl
  refine ⟨by rw [e2, e3]; exact b1.1, by rw [e1, e3]; exact b2.1, by rw [e3]; exact b1.2, by omega, by omega⟩
theorem pcI_step {k : Nat} {s : Int × Int × Int} {x : List (Int × Int)} {v : Int} (hs : pcI k s) (h : lineS x = 0) (hv : inS x v) (hv' : inS x (v + 1)) : pcI (k + 1) (s.1 * (rPcS x v).2.2 + (rPcS x v).1 * s.2.2, s.2.1 * (rPcS x v).2.2 + (rPcS x v).2.1 * s.2.2, s.2.2 * (rPcS x v).2.2) := by
  obtain ⟨⟨s1, s2⟩, ⟨s3, s4⟩, ⟨s5, s6⟩, s7, s8⟩ := hs
  obtain ⟨⟨b1, b2⟩, ⟨b3, b4⟩, ⟨b5, b6⟩, b7, b8⟩ := rPc_bd h hv hv'
  generalize (rPcS x v).2.2 = d at *
  generalize (rPcS x v).1 = n at *
  generalize (rPcS x v).2.1 = m at *
  obtain ⟨p, q, r⟩ := s
  dsimp only at *
  have hk : (0 : Int) ≤ k := Int.natCast_nonneg k
  have hpow : (0 : Int) < 1000 ^ k := Int.pow_pos (by decide)
  have hd0 : 0 ≤ d := by omega
  have hr0 : 0 ≤ r := by omega
  have m1 := Int.mul_le_mul_of_nonneg_right s3 hd0
  have m2 := Int.mul_le_mul_of_nonneg_right s4 hd0
  have m3 := Int.mul_le_mul_of_nonneg_right s5 hd0
  have m4 := Int.mul_le_mul_of_nonneg_right s6 hd0
  have m5 := Int.mul_le_mul_of_nonneg_right b1 hr0
  have m6 := Int.mul_le_mul_of_nonneg_right b2 hr0
  have m7 := Int.mul_le_mul_of_nonneg_right b3 hr0
  have m8 := Int.mul_le_mul_of_nonneg_right b4 hr0
  have m9 : r * d ≤ 1000 ^ k * 1000 := Int.mul_le_mul s2 b6 hd0 (by omega)
  have m10 := Int.mul_nonneg (show 0 ≤ p - q by omega) hd0
  have m11 := Int.mul_nonneg (show 0 ≤ n - m by omega) hr0
  have m12 : 1000 * (p - q) * d ≤ 2000 * k * 1000 ^ k * 1000 := Int.mul_le_mul s8 b6 hd0 (Int.mul_nonneg (Int.mul_nonneg (by decide) hk) (Int.le_of_lt hpow))
  have m13 : (n - m) * r ≤ 2000 * 1000 ^ k := Int.mul_le_mul b8 s2 hr0 (by decide)
  have ep : (1000 : Int) ^ (k + 1) = 1000 ^ k * 1000 := Int.pow_succ _ _
  have ek : ((k + 1 : Nat) : Int) = (k : Int) + 1 := by omega
  unfold pcI
  dsimp only
  rw [ep, ek]
  generalize (1000 : Int) ^ k = w at *
  generalize (k : Int) = z at *
  refine ⟨⟨Int.mul_pos s1 (by omega), m9⟩, ⟨?_, ?_⟩, ⟨?_, ?_⟩, ?_, ?_⟩
  · have : -(1000 * (z + 1) * (r * d)) = -(1000 * z * r) * d + -1000 * d * r := by grind
    omega
  · have : 1000 * (z + 1) * (r * d) = 1000 * z * r * d + 1000 * d * r := by grind
    omega
  · have : -(1000 * (z + 1) * (r * d)) = -(1000 * z * r) * d + -1000 * d * r := by grind
    omega
  · have : 1000 * (z + 1) * (r * d) = 1000 * z * r * d + 1000 * d * r := by grind
    omega
  · have e1 : (p - q) * d = p * d - q * d := Int.sub_mul _ _ _
    have e2 : (n - m) * r = n * r - m * r := Int.sub_mul _ _ _
    omega
  · have e1 : 1000 * (p * d + n * r - (q * d + m * r)) = 1000 * (p - q) * d + 1000 * ((n - m) * r) := by grind
    have e2 : 2000 * (z + 1) * (w * 1000) = 2000 * z * w * 1000 + 1000 * (2000 * w) := by grind
    omega
theorem rPcGo_I {v : Int} : ∀ {l : List (List (Int × Int))} {k : Nat} {s : Int × Int × Int}, inAll l v → inAll l (v + 1) → pcI k s → pcI (k + l.length) (rPcGo v l s)
  | [], _, _, _, _, h => h
  | x :: r, k, s, h1, h2, h => by
    have hx := h1 x (by simp)
    have := rPcGo_I (l := r) (k := k + 1) (fun y hy => h1 y (by simp [hy])) (fun y hy => h2 y (by simp [hy])) (pcI_step h hx.1 hx.2 (h2 x (by simp)).2)
    rw [show k + (x :: r).length = k + 1 + r.length by simp; omega]
    exact this
theorem rPcGo_same {v : Int} : ∀ {l : List (List (Int × Int))} {s t : Int × Int} {p : Int × Int × Int}, inAll l v → inAll l (v + 1) → sameV s (p.1, p.2.2) → sameV t (p.2.1, p.2.2) → sameV (sumGo v l s) ((rPcGo v l p).1, (rPcGo v l p).2.2) ∧ sameV (sumGo (v + 1) l t) ((rPcGo v l p).2.1, (rPcGo v l p).2.2)
  | [], _, _, _, _, _, h1, h2 => ⟨h1, h2⟩
  | x :: r, s, t, p, h1, h2, g1, g2 => by
    have hx := h1 x (by simp)
    have hx' := h2 x (by simp)
    obtain ⟨s1, s2, s3⟩ := rPc_seg hx.1 hx.2 hx'.2
    obtain ⟨e1, e2, e3⟩ := rPc_next (x := x) (v := v)
    have a1 := at_same hx.1 s1
    have a2 := at_same hx.1 s2
    rw [← e2, ← e3] at a1
    rw [← e1, ← e3] at a2
    exact rPcGo_same (p := (p.1 * (rPcS x v).2.2 + (rPcS x v).1 * p.2.2, p.2.1 * (rPcS x v).2.2 + (rPcS x v).2.1 * p.2.2, p.2.2 * (rPcS x v).2.2)) (fun y hy => h1 y (by simp [hy])) (fun y hy => h2 y (by simp [hy])) (sameV_plus g1 a1) (sameV_plus g2 a2)
theorem pc_same {l : List (List (Int × Int))} {v : Int} (h1 : inAll l v) (h2 : inAll l (v + 1)) : sameV (sumS l v) ((rPcL l v).1, (rPcL l v).2.2) ∧ sameV (sumS l (v + 1)) ((rPcL l v).2.1, (rPcL l v).2.2) ∧ pcI l.length (rPcL l v) := by
  have := rPcGo_same (s := (0, 1)) (t := (0, 1)) (p := (0, 0, 1)) h1 h2 ⟨by decide, by decide, rfl⟩ ⟨by decide, by decide, rfl⟩
  have hI := rPcGo_I (k := 0) (s := (0, 0, 1)) h1 h2 pcI_zero
  rw [Nat.zero_add] at hI
  exact ⟨this.1, this.2, hI⟩
theorem pcI_three {k : Nat} {s : Int × Int × Int} (h : pcI k s) (hk : k ≤ 3) : (0 < s.2.2 ∧ s.2.2 ≤ 1000000000) ∧ (-3000000000000 ≤ s.1 ∧ s.1 ≤ 3000000000000) ∧ (-3000000000000 ≤ s.2.1 ∧ s.2.1 ≤ 3000000000000) ∧ s.2.1 ≤ s.1 ∧ s.1 - s.2.1 ≤ 6000000000 := by
  obtain ⟨⟨s1, s2⟩, ⟨s3, s4⟩, ⟨s5, s6⟩, s7, s8⟩ := h
  rcases k with _ | _ | _ | _ | k
  · simp at s2 s3 s4 s5 s6 s8; omega
  · simp at s2 s3 s4 s5 s6 s8; omega
  · simp at s2 s3 s4 s5 s6 s8; omega
  · simp at s2 s3 s4 s5 s6 s8; omega
  · omega
theorem by_val {x y : Int × Int} (hx : 0 < x.2) (hy : 0 < y.2) (h1 : 0 < y.1) : sameV (byS x y) (x.1 * y.2, x.2 * y.1) := by
  have ex : x.2.tdiv (gcdS x.2 y.2) * gcdS x.2 y.2 = x.2 := Int.tdiv_mul_cancel (Int.gcd_dvd_left x.2 y.2)
  have ey : y.2.tdiv (gcdS x.2 y.2) * gcdS x.2 y.2 = y.2 := Int.tdiv_mul_cancel (Int.gcd_dvd_right x.2 y.2)
  have hg : 0 < gcdS x.2 y.2 := gcdS_pos hy
  have px : 0 < x.2.tdiv (gcdS x.2 y.2) := by
    have := tdiv_gcd_pos (n := y.2) hx
    rwa [show gcdS y.2 x.2 = gcdS x.2 y.2 from by unfold gcdS; rw [Int.gcd_comm]] at this
  have := sameV_lowest (n := x.1 * (y.2.tdiv (gcdS x.2 y.2))) (Int.mul_pos px h1)
  obtain ⟨h2, h3, h4⟩ := this
  refine ⟨h2, Int.mul_pos hx h1, ?_⟩
  show (byS x y).1 * (x.2 * y.1) = x.1 * y.2 * (byS x y).2
  have eb : byS x y = lowestS (x.1 * (y.2.tdiv (gcdS x.2 y.2))) (x.2.tdiv (gcdS x.2 y.2) * y.1) := rfl
  rw [eb]
  generalize lowestS (x.1 * (y.2.tdiv (gcdS x.2 y.2))) (x.2.tdiv (gcdS x.2 y.2) * y.1) = z at *
  dsimp only at h4
  generalize x.2.tdiv (gcdS x.2 y.2) = u at *
  generalize y.2.tdiv (gcdS x.2 y.2) = w at *
  generalize gcdS x.2 y.2 = g at *
  rw [← ex, ← ey]
  grind
theorem plus_int {v : Int} {p : Int × Int} (hp : 0 < p.2) : plusS (v, 1) p = lowestS (v * p.2 + p.1) p.2 := by
  unfold plusS
  have e : gcdS 1 p.2 = 1 := by unfold gcdS; simp
  dsimp only
  rw [e]
  simp
theorem part_same {s t : Int × Int} {a b d L : Int} (h1 : sameV s (a, d)) (h2 : sameV t (b, d)) (hL : L * d < a) (hb : b < L * d) : byS (plusS s (0 - L, 1)) (plusS s (0 - t.1, t.2)) = lowestS (a - L * d) (a - b) := by
  obtain ⟨s1, d1, s3⟩ := h1
  obtain ⟨t1, _, t3⟩ := h2
  dsimp only at *
  have q1 : sameV (plusS s (0 - L, 1)) (a * 1 + (0 - L) * d, d * 1) := sameV_plus (s := s) (t := (a, d)) (a := (0 - L, 1)) (n := 0 - L) (d := 1) ⟨s1, d1, s3⟩ ⟨Int.one_pos, Int.one_pos, rfl⟩
  have q2 : sameV (plusS s (0 - t.1, t.2)) (a * d + (0 - b) * d, d * d) := sameV_plus (s := s) (t := (a, d)) (a := (0 - t.1, t.2)) (n := 0 - b) (d := d) ⟨s1, d1, s3⟩ ⟨t1, d1, by dsimp only; grind⟩
  obtain ⟨u1, _, u3⟩ := q1
  obtain ⟨w1, _, w3⟩ := q2
  dsimp only at u3 w3
  have hy : 0 < (plusS s (0 - t.1, t.2)).1 := by
    refine pos_of_mul (b := d * d) ?_ (Int.le_of_lt (Int.mul_pos d1 d1))
    rw [w3]
    refine Int.mul_pos ?_ w1
    have : a * d + (0 - b) * d = (a - b) * d := by grind
    rw [this]
    exact Int.mul_pos (by omega) d1
  obtain ⟨v1, v2, v3⟩ := by_val u1 w1 hy
  dsimp only at v2 v3
  have ex := v1
  generalize plusS s (0 - L, 1) = x at *
  generalize plusS s (0 - t.1, t.2) = y at *
  have eb : byS x y = lowestS (x.1 * (y.2.tdiv (gcdS x.2 y.2))) (x.2.tdiv (gcdS x.2 y.2) * y.1) := rfl
  have px : 0 < x.2.tdiv (gcdS x.2 y.2) := by
    have := tdiv_gcd_pos (n := y.2) u1
    rwa [show gcdS y.2 x.2 = gcdS x.2 y.2 from by unfold gcdS; rw [Int.gcd_comm]] at this
  rw [eb]
  refine lowest_eq (Int.mul_pos px hy) (by omega) ?_
  have ex : x.2.tdiv (gcdS x.2 y.2) * gcdS x.2 y.2 = x.2 := Int.tdiv_mul_cancel (Int.gcd_dvd_left x.2 y.2)
  have ey : y.2.tdiv (gcdS x.2 y.2) * gcdS x.2 y.2 = y.2 := Int.tdiv_mul_cancel (Int.gcd_dvd_right x.2 y.2)
  have hg : 0 < gcdS x.2 y.2 := gcdS_pos w1
  generalize x.2.tdiv (gcdS x.2 y.2) = u at *
  generalize y.2.tdiv (gcdS x.2 y.2) = w at *
  generalize gcdS x.2 y.2 = g at *
  have k1 : x.1 * d = (a - L * d) * x.2 := by rw [Int.mul_one, Int.mul_one] at u3; rw [u3]; grind
  have k2 : y.1 * d = (a - b) * y.2 := by
    refine mul_cancel (c := d) ?_ d1
    grind
  refine mul_cancel (c := g * d) ?_ (Int.mul_pos hg d1)
  have l1 : x.1 * w * (a - b) * (g * d) = (x.1 * d) * ((a - b) * (w * g)) := by grind
  have l2 : (a - L * d) * (u * y.1) * (g * d) = (a - L * d) * (u * g) * (y.1 * d) := by grind
  rw [l1, l2, k1, k2, ex, ey]
theorem at_mono {l : List (List (Int × Int))} {v : Int} (h1 : inAll l v) (h2 : inAll l (v + 1)) {L : Int} (h : (sumS l v).1 - L * (sumS l v).2 < 0) : (sumS l (v + 1)).1 - L * (sumS l (v + 1)).2 < 0 := by
  obtain ⟨p1, p2, p3⟩ := pc_same h1 h2
  rw [(sameV_cmp p2 L).2]
  rw [(sameV_cmp p1 L).2] at h
  have := p3.2.2.2.1
  dsimp only at h ⊢
  omega
theorem rCross_below {l : List (List (Int × Int))} {load : Int} (hall : ∀ v, (comS l).1 ≤ v → v ≤ (comS l).2 → inAll l v) : ∀ {f : Nat} {v : Int}, (comS l).1 ≤ v → (v : Int) + f ≤ (comS l).2 + 1 → (v ≤ (comS l).2 → (sumS l v).1 - load * (sumS l v).2 < 0) → rCrossGo l load (comS l).2 v f = none
  | 0, _, _, _, _ => rfl
  | f + 1, v, h1, h2, h3 => by
    have hv : v ≤ (comS l).2 := by omega
    have hb := h3 hv
    have hs := sum_same (hall v h1 hv)
    have c := sameV_cmp hs load
    unfold rCrossGo
    rw [if_neg (by rw [← c.1]; omega)]
    by_cases e : v = (comS l).2
    · rw [if_pos e]
    rw [if_neg e]
    obtain ⟨p1, p2, p3⟩ := pc_same (hall v h1 hv) (hall (v + 1) (by omega) (by omega))
    have c1 := (sameV_cmp p1 load).2.1 hb
    dsimp only at c1
    rw [if_neg (by omega)]
    exact rCross_below hall (by omega) (by omega) fun _ => at_mono (hall v h1 hv) (hall (v + 1) (by omega) (by omega)) hb
theorem cross_same {l : List (List (Int × Int))} {load : Int} (hall : ∀ v, (comS l).1 ≤ v → v ≤ (comS l).2 → inAll l v) : ∀ {f : Nat} {v : Int}, (comS l).1 ≤ v → (v : Int) + f ≤ (comS l).2 + 1 → rCrossGo l load (comS l).2 v f = (crossGo l load (comS l).2 v f).map fun q => plusS (q.1, 1) q.2
  | 0, _, _, _ => rfl
  | f + 1, v, h1, h2 => by
    have hv : v ≤ (comS l).2 := by omega
    have hs := sum_same (hall v h1 hv)
    have c := sameV_cmp hs load
    by_cases e1 : (sumS l v).1 - load * (sumS l v).2 = 0
    · unfold rCrossGo crossGo
      rw [if_pos (c.1.1 e1), if_pos e1]
      show some (lowestS v 1) = some (plusS (v, 1) (0, 1))
      rw [plus_int (show (0 : Int) < ((0 : Int), (1 : Int)).2 from Int.one_pos)]
      simp
    by_cases e2 : (sumS l v).1 - load * (sumS l v).2 < 0
    · rw [rCross_below hall h1 h2 fun _ => e2]
      unfold crossGo
      rw [if_neg e1, if_pos e2]
      rfl
    unfold rCrossGo crossGo
    rw [if_neg (by rw [← c.1]; exact e1), if_neg e1, if_neg e2]
    by_cases e : v = (comS l).2
    · rw [if_pos e, if_pos e]; rfl
    rw [if_neg e, if_neg e]
    have hn := hall (v + 1) (by omega) (by omega)
    obtain ⟨p1, p2, p3⟩ := pc_same (hall v h1 hv) hn
    have c1 := sameV_cmp p1 load
    have c2 := (sameV_cmp p2 load).2
    dsimp only at c1 c2
    have g1 : load * (rPcL l v).2.2 < (rPcL l v).1 := by
      have := (not_congr c1.1).1 e1
      have := (not_congr c1.2).1 e2
      omega
    by_cases e3 : (sumS l (v + 1)).1 < load * (sumS l (v + 1)).2
    · have g2 := c2.1 (by omega)
      rw [if_pos ⟨g1, g2⟩, if_pos e3]
      show some _ = some _
      have hp := part_same p1 p2 g1 g2
      have hpos := (lowest_val (n := (rPcL l v).1 - load * (rPcL l v).2.2) (d := (rPcL l v).1 - (rPcL l v).2.1) (by omega)).1
      dsimp only
      rw [hp, plus_int hpos]
    · have g2 : ¬ (rPcL l v).2.1 < load * (rPcL l v).2.2 := by rw [← c2]; omega
      rw [if_neg (fun h => g2 h.2), if_neg e3]
      exact cross_same hall (by omega) (by omega)
theorem crossS_same {l : List (List (Int × Int))} {load : Int} (h : linesS l = 0) : rCrossS l load = (crossS l load).map fun q => plusS (q.1, 1) q.2 := by
  obtain ⟨_, _, _, l4, _⟩ := lines_ok h
  exact cross_same (fun v h1 h2 => lines_in h ⟨h1, h2⟩) (Int.le_refl _) (by omega)
theorem crossGo_part {l : List (List (Int × Int))} {load : Int} (h3 : l.length ≤ 3) (hall : ∀ v, (comS l).1 ≤ v → v ≤ (comS l).2 → inAll l v) : ∀ {f : Nat} {v u : Int} {p : Int × Int}, (comS l).1 ≤ v → (v : Int) + f ≤ (comS l).2 + 1 → crossGo l load (comS l).2 v f = some (u, p) → p.2 ≤ 6000000000
  | 0, _, _, _, _, _, h => by simp [crossGo] at h
  | f + 1, v, u, p, h1, h2, h => by
    have hv : v ≤ (comS l).2 := by omega
    unfold crossGo at h
    split at h
    · cases h; decide
    rename_i e1
    split at h
    · cases h
    rename_i e2
    split at h
    · cases h
    rename_i e
    have hn := hall (v + 1) (by omega) (by omega)
    obtain ⟨p1, p2, p3⟩ := pc_same (hall v h1 hv) hn
    have c1 := sameV_cmp p1 load
    have c2 := (sameV_cmp p2 load).2
    dsimp only at c1 c2
    have g1 : load * (rPcL l v).2.2 < (rPcL l v).1 := by
      have := (not_congr c1.1).1 e1
      have := (not_congr c1.2).1 e2
      omega
    split at h
    · rename_i e3
      have g2 := c2.1 (by omega)
      have hp := part_same p1 p2 g1 g2
      cases h
      rw [hp]
      have hb := pcI_three p3 h3
      have := (lowest_val (n := (rPcL l v).1 - load * (rPcL l v).2.2) (d := (rPcL l v).1 - (rPcL l v).2.1) (by omega)).2.2
      omega
    · exact crossGo_part h3 hall (by omega) (by omega) h
theorem crossS_part {l : List (List (Int × Int))} {load u : Int} {p : Int × Int} (h : linesS l = 0) (hc : crossS l load = some (u, p)) : p.2 ≤ 6000000000 := by
  obtain ⟨_, h3, _, l4, _⟩ := lines_ok h
  exact crossGo_part h3 (fun v h1 h2 => lines_in h ⟨h1, h2⟩) (Int.le_refl _) (by omega) hc
theorem rShIdx_eq {x : List (Int × Int)} {c : Int × Int} {w : Int} (hc : ∀ u : Int, u * c.2 < c.1 ↔ u < w) : ∀ {f i : Nat}, rShIdx x c i f = rIdx x w i f
  | 0, _ => rfl
  | f + 1, i => by
    unfold rShIdx rIdx
    by_cases h : (x.getD i (0, 0)).1 < w
    · rw [if_pos h, if_pos ((hc _).2 h), rShIdx_eq hc]
    · rw [if_neg h, if_neg (fun g => h ((hc _).1 g))]
theorem mul_cmp {u w c : Int} (hc : 0 < c) : u * c ≤ w * c ↔ u ≤ w := by
  refine ⟨fun h => Int.le_of_mul_le_mul_right h hc, fun h => Int.mul_le_mul_of_nonneg_right h (Int.le_of_lt hc)⟩
theorem share_same {x : List (Int × Int)} {v : Int} {p : Int × Int} (h : partOk x v p) (h0 : p.1 = 0 → p = (0, 1)) : shareS x v p = rShareS x (plusS (v, 1) p) := by
  obtain ⟨hx, hv, hp⟩ := h
  have hg := (line_ok hx).2
  unfold shareS rShareS
  by_cases e : p.1 = 0
  · have ep := h0 e
    subst ep
    have ec : plusS (v, 1) (0, 1) = (v, 1) := by
      rw [plus_int (show (0 : Int) < ((0 : Int), (1 : Int)).2 from Int.one_pos)]
      have := lowest_mul (k := v) (n := 1) (by decide)
      simpa using this
    rw [if_pos rfl, ec]
    have hi : rShIdx x (v, 1) 1 x.length = rPiece x v := rShIdx_eq (fun u => by simp)
    obtain ⟨hr, e'⟩ := rAt_seg (checkAt_of hx hv)
    rw [hi, at_eq (checkAt_of hx hv), e']
    simp only [Int.mul_one]
    rfl
  · rw [if_neg e]
    obtain ⟨hv', p1, p2, p3⟩ := hp.resolve_left e
    have ec := plus_int (v := v) (p := p) (by omega)
    obtain ⟨c1, c2, c3⟩ := lowest_val (n := v * p.2 + p.1) (d := p.2) (by omega)
    rw [← ec] at c1 c2 c3
    generalize plusS (v, 1) p = c at *
    obtain ⟨r, hr⟩ : ∃ r, r = c.1 - v * c.2 := ⟨_, rfl⟩
    have k1 : r * p.2 = p.1 * c.2 := by rw [hr]; grind
    have r0 : 0 < r := by
      refine pos_of_mul (b := p.2) ?_ (by omega)
      rw [k1]; exact Int.mul_pos p1 c1
    have r1 : r < c.2 := by
      have : 0 < (c.2 - r) * p.2 := by
        have e : (c.2 - r) * p.2 = c.2 * (p.2 - p.1) := by grind
        rw [e]; exact Int.mul_pos c1 (by omega)
      have := pos_of_mul this (by omega)
      omega
    have hi : rShIdx x c 1 x.length = rPiece x (v + 1) := rShIdx_eq (fun u => by
      have h1 : c.1 = v * c.2 + r := by omega
      rw [h1]
      constructor
      · intro h
        by_cases hu : u < v + 1
        · exact hu
        · have := (mul_cmp c1).2 (show v + 1 ≤ u by omega)
          rw [Int.add_mul, Int.one_mul] at this
          omega
      · intro h
        have := (mul_cmp c1).2 (show u ≤ v by omega)
        omega)
    rw [hi]
    obtain ⟨s1, s2, s3⟩ := rPc_seg hx hv hv'
    obtain ⟨j, j1, j2, j3, j4, j5, j6, j7⟩ := piece_at hx hv
    have hj : inSeg x j v := ⟨j1, j2, j4, j5⟩
    have hjv : v < (x.getD j (0, 0)).1 := by
      rcases Int.lt_or_le v (x.getD j (0, 0)).1 with h | h
      · exact h
      · have : v = (x.getD j (0, 0)).1 := by omega
        have := j7 this
        have := hv'.2
        rw [← j7 (by omega)] at this
        omega
    have ej : rPiece x (v + 1) = j := by
      have m : ∀ {a b : Nat}, inSeg x b v → v < (x.getD a (0, 0)).1 → a < b → False := by
        intro a b hb ha hab
        have : (x.getD a (0, 0)).1 ≤ (x.getD (b - 1) (0, 0)).1 := by
          by_cases e : a = b - 1
          · rw [e]; exact Int.le_refl _
          · exact Int.le_of_lt (volt_mono hg (by omega) (by have := hb.2.1; omega))
        have := hb.2.2.1
        omega
      rcases Nat.lt_trichotomy (rPiece x (v + 1)) j with h | h | h
      · exact (m hj s3 h).elim
      · exact h
      · exact (m s1 hjv h).elim
    have hw := segW_pos hg hj
    have eA : gP x (pieceS x v) = x.getD (j - 1) (0, 0) := by unfold gP; rw [j3]; congr 1; omega
    have eB : gP x (pieceS x v + 1) = x.getD j (0, 0) := by unfold gP; rw [j3]; congr 1; omega
    rw [ej]
    simp only [eA, eB]
    unfold segW at hw
    generalize x.getD (j - 1) (0, 0) = a at *
    generalize x.getD j (0, 0) = b at *
    refine lowest_eq (Int.mul_pos hw (by omega)) (Int.mul_pos hw c1) ?_
    have h1 : c.1 = v * c.2 + r := by omega
    rw [h1]
    have l1 : ((a.2 * (b.1 - a.1) + (b.2 - a.2) * (v - a.1)) * p.2 + (b.2 - a.2) * p.1) * ((b.1 - a.1) * c.2) = (a.2 * (b.1 - a.1) + (b.2 - a.2) * (v - a.1)) * p.2 * ((b.1 - a.1) * c.2) + (b.2 - a.2) * (b.1 - a.1) * (p.1 * c.2) := by grind
    have l2 : (a.2 * (b.1 - a.1) * c.2 + (b.2 - a.2) * (v * c.2 + r - a.1 * c.2)) * ((b.1 - a.1) * p.2) = (a.2 * (b.1 - a.1) + (b.2 - a.2) * (v - a.1)) * p.2 * ((b.1 - a.1) * c.2) + (b.2 - a.2) * (b.1 - a.1) * (r * p.2) := by grind
    rw [l1, l2, k1]
end Go.Proofs.YtacaadhlobbemaaGreatDoor
namespace Go.Proofs.YtacaadhlobbemaaGreatDoor
open Go.Sx
theorem rPcGo_lt {v : Int} : ∀ {l : List (List (Int × Int))} {s : Int × Int × Int}, inAll l v → inAll l (v + 1) → 0 < s.2.2 → s.2.1 ≤ s.1 → (l ≠ [] ∨ s.2.1 < s.1) → (rPcGo v l s).2.1 < (rPcGo v l s).1
  | [], s, _, _, _, _, h => h.resolve_left (by simp)
  | x :: r, s, h1, h2, h3, h4, _ => by
    have hx := h1 x (by simp)
    obtain ⟨b1, b2, b3, b4, b5⟩ := rPc_bd hx.1 hx.2 (h2 x (by simp)).2
    have m1 := Int.mul_le_mul_of_nonneg_right h4 (show 0 ≤ (rPcS x v).2.2 by omega)
    have m2 := Int.mul_lt_mul_of_pos_right b4 h3
    have m3 := Int.mul_pos h3 (show 0 < (rPcS x v).2.2 by omega)
    exact rPcGo_lt (s := (s.1 * (rPcS x v).2.2 + (rPcS x v).1 * s.2.2, s.2.1 * (rPcS x v).2.2 + (rPcS x v).2.1 * s.2.2, s.2.2 * (rPcS x v).2.2)) (fun y hy => h1 y (by simp [hy])) (fun y hy => h2 y (by simp [hy])) m3 (by dsimp only; omega) (.inr (by dsimp only; omega))
def sgS (l : List (List (Int × Int))) (L v : Int) : Int := (sumS l v).1 - L * (sumS l v).2
theorem sg_step {l : List (List (Int × Int))} {v L : Int} (hl : l ≠ []) (h1 : inAll l v) (h2 : inAll l (v + 1)) (h : sgS l L v ≤ 0) : sgS l L (v + 1) < 0 := by
  obtain ⟨p1, p2, p3⟩ := pc_same h1 h2
  have c1 := sameV_cmp p1 L
  have c2 := sameV_cmp p2 L
  have lt := rPcGo_lt (s := (0, 0, 1)) h1 h2 Int.one_pos (Int.le_refl _) (.inl hl)
  change (rPcL l v).2.1 < (rPcL l v).1 at lt
  unfold sgS at *
  dsimp only at c1 c2
  rw [c2.2]
  rcases Int.lt_or_eq_of_le h with h | h
  · have := c1.2.1 h; omega
  · have := c1.1.1 h; omega
theorem sg_run {l : List (List (Int × Int))} {L : Int} (hl : l ≠ []) (hall : ∀ v, (comS l).1 ≤ v → v ≤ (comS l).2 → inAll l v) : ∀ {k : Nat} {v : Int}, (comS l).1 ≤ v → v + (k + 1 : Nat) ≤ (comS l).2 → sgS l L v ≤ 0 → sgS l L (v + (k + 1 : Nat)) < 0
  | 0, v, h1, h2, h => sg_step hl (hall v h1 (by omega)) (hall (v + 1) (by omega) h2) h
  | k + 1, v, h1, h2, h => by
    have ih := sg_run hl hall (k := k) (v := v) h1 (by omega) h
    have := sg_step hl (hall (v + (k + 1 : Nat)) (by omega) (by omega)) (hall (v + (k + 1 : Nat) + 1) (by omega) (by omega)) (by omega) (L := L)
    rw [show v + ((k + 1 + 1 : Nat) : Int) = v + (k + 1 : Nat) + 1 by omega]
    exact this
theorem sg_lt {l : List (List (Int × Int))} {L : Int} (hl : l ≠ []) (hall : ∀ v, (comS l).1 ≤ v → v ≤ (comS l).2 → inAll l v) {v w : Int} (h1 : (comS l).1 ≤ v) (h2 : w ≤ (comS l).2) (hvw : v < w) (h : sgS l L v ≤ 0) : sgS l L w < 0 := by
  have := sg_run hl hall (L := L) (k := (w - v - 1).toNat) (v := v) h1 (by omega) h
  rw [show v + (((w - v - 1).toNat + 1 : Nat) : Int) = w by omega] at this
  exact this
def partL (l : List (List (Int × Int))) (load v : Int) : Int × Int := lowestS ((rPcL l v).1 - load * (rPcL l v).2.2) ((rPcL l v).1 - (rPcL l v).2.1)
theorem crossGo_char {l : List (List (Int × Int))} {load : Int} (hall : ∀ v, (comS l).1 ≤ v → v ≤ (comS l).2 → inAll l v) : ∀ {f : Nat} {v u : Int} {p : Int × Int}, (comS l).1 ≤ v → (v : Int) + f ≤ (comS l).2 + 1 → crossGo l load (comS l).2 v f = some (u, p) →
    ((comS l).1 ≤ u ∧ u ≤ (comS l).2) ∧ ((p = (0, 1) ∧ sgS l load u = 0) ∨ (u < (comS l).2 ∧ 0 < sgS l load u ∧ sgS l load (u + 1) < 0 ∧ p = partL l load u))
  | 0, _, _, _, _, _, h => by simp [crossGo] at h
  | f + 1, v, u, p, h1, h2, h => by
    have hv : v ≤ (comS l).2 := by omega
    unfold crossGo at h
    split at h
    · rename_i e1
      cases h
      exact ⟨⟨h1, hv⟩, .inl ⟨rfl, e1⟩⟩
    rename_i e1
    split at h
    · cases h
    rename_i e2
    split at h
    · cases h
    rename_i e
    have hn := hall (v + 1) (by omega) (by omega)
    obtain ⟨p1, p2, p3⟩ := pc_same (hall v h1 hv) hn
    have c1 := sameV_cmp p1 load
    have c2 := (sameV_cmp p2 load).2
    dsimp only at c1 c2
    have g1 : load * (rPcL l v).2.2 < (rPcL l v).1 := by
      have := (not_congr c1.1).1 e1
      have := (not_congr c1.2).1 e2
      omega
    split at h
    · rename_i e3
      have g2 := c2.1 (by omega)
      have hp := part_same p1 p2 g1 g2
      cases h
      exact ⟨⟨h1, hv⟩, .inr ⟨by omega, by unfold sgS; omega, by unfold sgS; omega, hp⟩⟩
    · exact crossGo_char hall (by omega) (by omega) h
theorem cross_char {l : List (List (Int × Int))} {load u : Int} {p : Int × Int} (h : linesS l = 0) (hc : crossS l load = some (u, p)) :
    ((comS l).1 ≤ u ∧ u ≤ (comS l).2) ∧ ((p = (0, 1) ∧ sgS l load u = 0) ∨ (u < (comS l).2 ∧ 0 < sgS l load u ∧ sgS l load (u + 1) < 0 ∧ p = partL l load u)) := by
  obtain ⟨_, h3, _, l4, _⟩ := lines_ok h
  exact crossGo_char (fun v h1 h2 => lines_in h ⟨h1, h2⟩) (Int.le_refl _) (by omega) hc
theorem crossGo_hit {l : List (List (Int × Int))} {load w : Int} (hl : l ≠ []) (hall : ∀ v, (comS l).1 ≤ v → v ≤ (comS l).2 → inAll l v) (hw : w ≤ (comS l).2) (h0 : sgS l load w = 0) : ∀ {f : Nat} {v : Int}, (comS l).1 ≤ v → v ≤ w → w < v + f → crossGo l load (comS l).2 v f = some (w, 0, 1)
  | 0, _, _, h1, h2 => by omega
  | f + 1, v, h1, h2, h3 => by
    have key : ∀ u, (comS l).1 ≤ u → u < w → 0 < sgS l load u := by
      intro u hu hlt
      rcases Int.lt_or_le 0 (sgS l load u) with h | h
      · exact h
      · have := sg_lt hl hall hu hw hlt h; omega
    unfold crossGo
    by_cases e : v = w
    · subst e
      rw [if_pos (by unfold sgS at h0; exact h0)]
    · have k1 := key v h1 (by omega)
      have k2 : 0 ≤ sgS l load (v + 1) := by
        by_cases e2 : v + 1 = w
        · rw [e2, h0]; exact Int.le_refl _
        · exact Int.le_of_lt (key (v + 1) (by omega) (by omega))
      unfold sgS at k1 k2
      rw [if_neg (by omega), if_neg (by omega), if_neg (by omega), if_neg (by omega)]
      exact crossGo_hit hl hall hw h0 (by omega) (by omega) (by omega)
theorem cross_hit {l : List (List (Int × Int))} {load w : Int} (h : linesS l = 0) (h1 : (comS l).1 ≤ w) (h2 : w ≤ (comS l).2) (h0 : sgS l load w = 0) : crossS l load = some (w, 0, 1) := by
  obtain ⟨l1, _⟩ := lines_ok h
  exact crossGo_hit (by rintro rfl; simp at l1) (fun v h1 h2 => lines_in h ⟨h1, h2⟩) h2 h0 (Int.le_refl _) h1 (by omega)
def ltV (a b : Int × Int) : Prop := a.1 * b.2 < b.1 * a.2
theorem sameV_trans {s t u : Int × Int} (h : sameV s t) (h' : sameV t u) : sameV s u := by
  obtain ⟨h1, h2, h3⟩ := h
  obtain ⟨_, g2, g3⟩ := h'
  refine ⟨h1, g2, mul_cancel (c := t.2) ?_ h2⟩
  grind
theorem sameV_symm {s t : Int × Int} (h : sameV s t) : sameV t s := ⟨h.2.1, h.1, h.2.2.symm⟩
theorem sameV_scale {s : Int × Int} {a b c : Int} (h : sameV s (a * c, b * c)) (hc : 0 < c) (hb : 0 < b) : sameV s (a, b) := by
  obtain ⟨h1, h2, h3⟩ := h
  refine ⟨h1, hb, mul_cancel (c := c) ?_ hc⟩
  dsimp only at h3 ⊢
  grind
theorem pos_iff {u w p q : Int} (hp : 0 < p) (hq : 0 < q) (h : u * p = w * q) : 0 < u ↔ 0 < w := by
  constructor
  · intro hu
    have := Int.mul_pos hu hp
    rw [h] at this
    exact pos_of_mul this (Int.le_of_lt hq)
  · intro hu
    have := Int.mul_pos hu hq
    rw [← h] at this
    exact pos_of_mul this (Int.le_of_lt hp)
theorem ltV_same {a b s t : Int × Int} (ha : sameV a s) (hb : sameV b t) : ltV a b ↔ ltV s t := by
  obtain ⟨a1, a2, a3⟩ := ha
  obtain ⟨b1, b2, b3⟩ := hb
  unfold ltV
  have e : (b.1 * a.2 - a.1 * b.2) * (s.2 * t.2) = (t.1 * s.2 - s.1 * t.2) * (a.2 * b.2) := by grind
  have := pos_iff (Int.mul_pos a2 b2) (Int.mul_pos a1 b1) e
  omega
theorem cross_val {u : Int} {p : Int × Int} (hp : 0 < p.2) : sameV (plusS (u, 1) p) (u * p.2 + p.1, p.2) := by
  rw [plus_int hp]; exact sameV_lowest hp
theorem partL_val {l : List (List (Int × Int))} {load u : Int} (h1 : inAll l u) (h2 : inAll l (u + 1)) (g1 : 0 < sgS l load u) (g2 : sgS l load (u + 1) < 0) : sameV (partL l load u) ((rPcL l u).1 - load * (rPcL l u).2.2, (rPcL l u).1 - (rPcL l u).2.1) ∧ (load * (rPcL l u).2.2 < (rPcL l u).1 ∧ (rPcL l u).2.1 < load * (rPcL l u).2.2) := by
  obtain ⟨p1, p2, p3⟩ := pc_same h1 h2
  have c1 := sameV_cmp p1 load
  have c2 := (sameV_cmp p2 load).2
  dsimp only at c1 c2
  unfold sgS at g1 g2
  have k2 := c2.1 g2
  have k1 : load * (rPcL l u).2.2 < (rPcL l u).1 := by
    have := (not_congr c1.1).1 (by omega)
    have := (not_congr c1.2).1 (by omega)
    omega
  exact ⟨sameV_lowest (by omega), k1, k2⟩
theorem cross_less {l : List (List (Int × Int))} {load u u' : Int} {p p' : Int × Int} (h : linesS l = 0) (hc : crossS l load = some (u, p)) (hc' : crossS l (load + 1) = some (u', p')) : ltV (plusS (u', 1) p') (plusS (u, 1) p) := by
  obtain ⟨l1, l3, _⟩ := lines_ok h
  have hne : l ≠ [] := by rintro rfl; simp at l1
  have hall : ∀ v, (comS l).1 ≤ v → v ≤ (comS l).2 → inAll l v := fun v h1 h2 => lines_in h ⟨h1, h2⟩
  obtain ⟨⟨a1, a2⟩, a3⟩ := cross_char h hc
  obtain ⟨⟨b1, b2⟩, b3⟩ := cross_char h hc'
  have sg1 : ∀ v, (comS l).1 ≤ v → v ≤ (comS l).2 → sgS l (load + 1) v < sgS l load v := by
    intro v h1 h2
    have hs := (sum_same (hall v h1 h2)).1
    unfold sgS
    rw [Int.add_mul, Int.one_mul]
    omega
  have hpp : 0 < p.2 ∧ 0 ≤ p.1 ∧ p.1 < p.2 := by
    rcases a3 with ⟨rfl, _⟩ | ⟨e1, e2, e3, rfl⟩
    · simp
    · obtain ⟨v1, v2, v3⟩ := partL_val (hall u a1 a2) (hall (u + 1) (by omega) (by omega)) e2 e3
      obtain ⟨w1, w2, w3⟩ := v1
      dsimp only at w2 w3
      refine ⟨w1, ?_, ?_⟩
      · rcases Int.lt_or_le (partL l load u).1 0 with hlt | hge
        · have := Int.mul_neg_of_neg_of_pos hlt w2
          have := Int.mul_pos (show 0 < (rPcL l u).1 - load * (rPcL l u).2.2 by omega) w1
          omega
        · exact hge
      · have e : ((partL l load u).2 - (partL l load u).1) * ((rPcL l u).1 - (rPcL l u).2.1) = (load * (rPcL l u).2.2 - (rPcL l u).2.1) * (partL l load u).2 := by grind
        have := (pos_iff w2 w1 e).2 (by omega)
        omega
  have hpp' : 0 < p'.2 ∧ 0 ≤ p'.1 ∧ p'.1 < p'.2 := by
    rcases b3 with ⟨rfl, _⟩ | ⟨e1, e2, e3, rfl⟩
    · simp
    · obtain ⟨v1, v2, v3⟩ := partL_val (hall u' b1 b2) (hall (u' + 1) (by omega) (by omega)) e2 e3
      obtain ⟨w1, w2, w3⟩ := v1
      dsimp only at w2 w3
      refine ⟨w1, ?_, ?_⟩
      · rcases Int.lt_or_le (partL l (load + 1) u').1 0 with hlt | hge
        · have := Int.mul_neg_of_neg_of_pos hlt w2
          have := Int.mul_pos (show 0 < (rPcL l u').1 - (load + 1) * (rPcL l u').2.2 by omega) w1
          omega
        · exact hge
      · have e : ((partL l (load + 1) u').2 - (partL l (load + 1) u').1) * ((rPcL l u').1 - (rPcL l u').2.1) = ((load + 1) * (rPcL l u').2.2 - (rPcL l u').2.1) * (partL l (load + 1) u').2 := by grind
        have := (pos_iff w2 w1 e).2 (by omega)
        omega
  rw [ltV_same (cross_val hpp'.1) (cross_val hpp.1)]
  unfold ltV
  dsimp only
  have base : 0 ≤ sgS l (load + 1) u' := by
    rcases b3 with ⟨_, e⟩ | ⟨_, e, _⟩
    · omega
    · omega
  rcases Int.lt_trichotomy u' u with hlt | heq | hgt
  · have e : (u * p.2 + p.1) * p'.2 - (u' * p'.2 + p'.1) * p.2 = (u - u' - 1) * (p.2 * p'.2) + (p'.2 - p'.1) * p.2 + p.1 * p'.2 := by grind
    have m1 := Int.mul_nonneg (show 0 ≤ u - u' - 1 by omega) (Int.le_of_lt (Int.mul_pos hpp.1 hpp'.1))
    have m2 := Int.mul_pos (show 0 < p'.2 - p'.1 by omega) hpp.1
    have m3 := Int.mul_nonneg hpp.2.1 (Int.le_of_lt hpp'.1)
    omega
  · subst heq
    have h1 := sg1 u' a1 a2
    rcases a3 with ⟨_, e⟩ | ⟨e1, e2, e3, rfl⟩
    · omega
    · obtain ⟨v1, v2, v3⟩ := partL_val (hall u' a1 a2) (hall (u' + 1) (by omega) (by omega)) e2 e3
      obtain ⟨w1, w2, w3⟩ := v1
      dsimp only at w2 w3
      have hpos : 0 < (partL l load u').1 := (pos_iff w2 w1 w3).2 (by omega)
      rcases b3 with ⟨rfl, _⟩ | ⟨f1, f2, f3, rfl⟩
      · simp only [Int.mul_one, Int.add_zero]
        omega
      · obtain ⟨y1, y2, y3⟩ := partL_val (hall u' a1 a2) (hall (u' + 1) (by omega) (by omega)) f2 f3
        obtain ⟨z1, z2, z3⟩ := y1
        dsimp only at z2 z3
        have hden := (pc_same (hall u' a1 a2) (hall (u' + 1) (by omega) (by omega))).2.2.1.1
        generalize partL l load u' = P1 at *
        generalize partL l (load + 1) u' = P2 at *
        generalize (rPcL l u').1 = a at *
        generalize (rPcL l u').2.1 = b at *
        generalize (rPcL l u').2.2 = d at *
        have e : ((u' * P1.2 + P1.1) * P2.2 - (u' * P2.2 + P2.1) * P1.2) * (a - b) = d * (P1.2 * P2.2) := by grind
        have := pos_of_mul (a := (u' * P1.2 + P1.1) * P2.2 - (u' * P2.2 + P2.1) * P1.2) (b := a - b) (by rw [e]; exact Int.mul_pos hden (Int.mul_pos w1 z1)) (by omega)
        omega
  · have h1 := sg1 u' b1 b2
    rcases a3 with ⟨_, e⟩ | ⟨e1, e2, e3, rfl⟩
    · have := sg_lt hne hall (L := load) a1 b2 hgt (by omega); omega
    · by_cases hu : u' = u + 1
      · subst hu; omega
      · have := sg_lt hne hall (L := load) (v := u + 1) (by omega) b2 (by omega) (by omega); omega
end Go.Proofs.YtacaadhlobbemaaGreatDoor
namespace Go.Proofs.YtacaadhlobbemaaGreatDoor
open Go.Sx
def thin (l : List (List (Int × Int))) : Prop := ∀ x ∈ l, (x.getD (x.length - 1) (0, 0)).1 ≤ 60
theorem volt_le {x : List (Int × Int)} (hx : lineS x = 0) {j : Nat} (hj : j < x.length) : (x.getD j (0, 0)).1 ≤ (x.getD (x.length - 1) (0, 0)).1 ∧ 0 ≤ (x.getD j (0, 0)).1 := by
  obtain ⟨ho, hg⟩ := line_ok hx
  refine ⟨?_, (line_at hg hj).1.1⟩
  by_cases e : j = x.length - 1
  · rw [← e]; exact Int.le_refl _
  · exact Int.le_of_lt (volt_mono hg (by omega) (by omega))
theorem piece_next {x : List (Int × Int)} {v : Int} (hx : lineS x = 0) (hv : inS x v) (hv' : inS x (v + 1)) : gP x (pieceS x v) = x.getD (rPiece x (v + 1) - 1) (0, 0) ∧ gP x (pieceS x v + 1) = x.getD (rPiece x (v + 1)) (0, 0) := by
  have hg := (line_ok hx).2
  obtain ⟨s1, s2, s3⟩ := rPc_seg hx hv hv'
  obtain ⟨j, j1, j2, j3, j4, j5, j6, j7⟩ := piece_at hx hv
  have hj : inSeg x j v := ⟨j1, j2, j4, j5⟩
  have hjv : v < (x.getD j (0, 0)).1 := by
    rcases Int.lt_or_le v (x.getD j (0, 0)).1 with h | h
    · exact h
    · have : v = (x.getD j (0, 0)).1 := by omega
      have := j7 this
      have := hv'.2
      rw [← j7 (by omega)] at this
      omega
  have m : ∀ {a b : Nat}, inSeg x b v → v < (x.getD a (0, 0)).1 → a < b → False := by
    intro a b hb ha hab
    have : (x.getD a (0, 0)).1 ≤ (x.getD (b - 1) (0, 0)).1 := by
      by_cases e : a = b - 1
      · rw [e]; exact Int.le_refl _
      · exact Int.le_of_lt (volt_mono hg (by omega) (by have := hb.2.1; omega))
    have := hb.2.2.1
    omega
  have ej : rPiece x (v + 1) = j := by
    rcases Nat.lt_trichotomy (rPiece x (v + 1)) j with h | h | h
    · exact (m hj s3 h).elim
    · exact h
    · exact (m s1 hjv h).elim
  rw [ej]
  unfold gP
  rw [j3]
  exact ⟨by congr 1; omega, by congr 1; omega⟩
theorem share_piece {x : List (Int × Int)} {v : Int} {p : Int × Int} (hx : lineS x = 0) (hv : inS x v) (hv' : inS x (v + 1)) (hp : p.1 ≠ 0) : shareS x v p = lowestS ((rPcS x v).1 * p.2 + ((rPcS x v).2.1 - (rPcS x v).1) * p.1) ((rPcS x v).2.2 * p.2) := by
  obtain ⟨e1, e2⟩ := piece_next hx hv hv'
  unfold shareS rPcS segN segW
  rw [if_neg hp]
  simp only [e1, e2]
  congr 2
  have : ∀ a b c d : Int, a - b = c + a - b - c := fun a b c d => by omega
  congr 1
  omega
def shGo (u : Int) (p : Int × Int) : List (List (Int × Int)) → Int × Int → Int × Int
  | [], s => s
  | x :: r, s => shGo u p r (plusS s (shareS x u p))
theorem shGo_drop {u : Int} {p : Int × Int} {l : List (List (Int × Int))} {k : Nat} {s : Int × Int} (h : k < l.length) : shGo u p (l.drop k) s = shGo u p (l.drop (k + 1)) (plusS s (shareS (l.getD k []) u p)) := by
  have e1 : l.getD k [] = l[k] := by simp [List.getD_eq_getElem?_getD, h]
  rw [List.drop_eq_getElem_cons h, e1]
  rfl
theorem shGo_zero {u : Int} : ∀ {l : List (List (Int × Int))} {s : Int × Int}, shGo u (0, 1) l s = sumGo u l s
  | [], _ => rfl
  | x :: r, s => by
    simp only [shGo, sumGo]
    rw [show shareS x u (0, 1) = atS x u from by unfold shareS; rw [if_pos rfl]]
    exact shGo_zero
theorem shGo_val {u : Int} {p : Int × Int} (hp : p.1 ≠ 0) (hp2 : 0 < p.2) : ∀ {l : List (List (Int × Int))} {s : Int × Int} {q : Int × Int × Int}, inAll l u → inAll l (u + 1) → 0 < q.2.2 → sameV s (q.1 * p.2 + (q.2.1 - q.1) * p.1, q.2.2 * p.2) → sameV (shGo u p l s) ((rPcGo u l q).1 * p.2 + ((rPcGo u l q).2.1 - (rPcGo u l q).1) * p.1, (rPcGo u l q).2.2 * p.2)
  | [], _, _, _, _, _, h => h
  | x :: r, s, q, h1, h2, hq, h => by
    have hx := h1 x (by simp)
    have hx' := h2 x (by simp)
    obtain ⟨b1, b2, b3, b4, b5⟩ := rPc_bd hx.1 hx.2 hx'.2
    have hd : 0 < (rPcS x u).2.2 := by omega
    have hs : sameV (shareS x u p) ((rPcS x u).1 * p.2 + ((rPcS x u).2.1 - (rPcS x u).1) * p.1, (rPcS x u).2.2 * p.2) := by
      rw [share_piece hx.1 hx.2 hx'.2 hp]
      exact sameV_lowest (Int.mul_pos hd hp2)
    have hpl := sameV_plus h hs
    dsimp only at hpl
    refine shGo_val hp hp2 (l := r) (q := (q.1 * (rPcS x u).2.2 + (rPcS x u).1 * q.2.2, q.2.1 * (rPcS x u).2.2 + (rPcS x u).2.1 * q.2.2, q.2.2 * (rPcS x u).2.2)) (fun y hy => h1 y (by simp [hy])) (fun y hy => h2 y (by simp [hy])) (Int.mul_pos hq hd) ?_
    dsimp only
    refine sameV_scale (c := p.2) ?_ hp2 (Int.mul_pos (Int.mul_pos hq hd) hp2)
    generalize (rPcS x u).1 = n at *
    generalize (rPcS x u).2.1 = m at *
    generalize (rPcS x u).2.2 = d at *
    have e1 : (q.1 * p.2 + (q.2.1 - q.1) * p.1) * (d * p.2) + (n * p.2 + (m - n) * p.1) * (q.2.2 * p.2) = ((q.1 * d + n * q.2.2) * p.2 + (q.2.1 * d + m * q.2.2 - (q.1 * d + n * q.2.2)) * p.1) * p.2 := by grind
    have e2 : q.2.2 * p.2 * (d * p.2) = q.2.2 * d * p.2 * p.2 := by grind
    rw [e1, e2] at hpl
    exact hpl
structure Found (l : List (List (Int × Int))) (load u : Int) (p : Int × Int) : Prop where
  lo : (comS l).1 ≤ u
  hi : u ≤ (comS l).2
  in1 : inAll l u
  in2 : p.1 ≠ 0 → u + 1 ≤ (comS l).2 ∧ inAll l (u + 1)
  p0 : 0 ≤ p.1
  p1 : p.1 < p.2
  zero : p.1 = 0 → p = (0, 1)
  tot : (shGo u p l (0, 1)).1 = load * (shGo u p l (0, 1)).2
  part : ∀ x ∈ l, partOk x u p
theorem found_of {l : List (List (Int × Int))} {load u : Int} {p : Int × Int} (h : linesS l = 0) (hL : -3000 ≤ load ∧ load ≤ 3000) (hc : crossS l load = some (u, p)) : Found l load u p := by
  have hall : ∀ v, (comS l).1 ≤ v → v ≤ (comS l).2 → inAll l v := fun v h1 h2 => lines_in h ⟨h1, h2⟩
  obtain ⟨⟨a1, a2⟩, a3⟩ := cross_char h hc
  have hpo := part_ok h hL hc
  rcases a3 with ⟨rfl, e⟩ | ⟨e1, e2, e3, e4⟩
  · refine ⟨a1, a2, hall u a1 a2, fun h => absurd rfl h, by decide, by decide, fun _ => rfl, ?_, hpo⟩
    rw [shGo_zero]
    unfold sgS at e
    have : sumGo u l (0, 1) = sumS l u := rfl
    rw [this]
    omega
  · have i1 := hall u a1 a2
    have i2 := hall (u + 1) (by omega) (by omega)
    obtain ⟨v1, v2, v3⟩ := partL_val i1 i2 e2 e3
    rw [← e4] at v1
    obtain ⟨w1, w2, w3⟩ := v1
    dsimp only at w2 w3
    have hp0 : 0 < p.1 := (pos_iff w2 w1 w3).2 (by omega)
    have hp1 : p.1 < p.2 := by
      have e : (p.2 - p.1) * ((rPcL l u).1 - (rPcL l u).2.1) = (load * (rPcL l u).2.2 - (rPcL l u).2.1) * p.2 := by grind
      have := (pos_iff w2 w1 e).2 (by omega)
      omega
    refine ⟨a1, a2, i1, fun _ => ⟨by omega, i2⟩, by omega, hp1, fun h => by omega, ?_, hpo⟩
    have hs := shGo_val (u := u) (p := p) (by omega) w1 (l := l) (s := (0, 1)) (q := (0, 0, 1)) i1 i2 Int.one_pos ⟨Int.one_pos, by dsimp only; omega, by simp⟩
    have er : rPcGo u l (0, 0, 1) = rPcL l u := rfl
    rw [er] at hs
    obtain ⟨g1, g2, g3⟩ := hs
    dsimp only at g2 g3
    refine mul_cancel (c := (rPcL l u).2.2 * p.2) ?_ g2
    rw [g3]
    have k : (rPcL l u).1 * p.2 + ((rPcL l u).2.1 - (rPcL l u).1) * p.1 = load * (rPcL l u).2.2 * p.2 := by grind
    rw [k]
    grind
theorem share_between {l : List (List (Int × Int))} {load u : Int} {p : Int × Int} (h : Found l load u p) {x : List (Int × Int)} (hx : x ∈ l) : ¬ ltV (atS x u) (shareS x u p) ∧ ∀ w, (w = u ∨ w = u + 1) → (p.1 ≠ 0 → w = u + 1) → inS x w → ¬ ltV (shareS x u p) (atS x w) := by
  have hi := h.in1 x hx
  have hat := atS_ok hi.1 hi.2
  by_cases hp : p.1 = 0
  · have e : shareS x u p = atS x u := by unfold shareS; rw [if_pos hp]
    rw [e]
    refine ⟨by unfold ltV; omega, fun w hw _ hiw => ?_⟩
    rcases hw with rfl | rfl
    · unfold ltV; omega
    · have s := rPc_seg hi.1 hi.2 hiw
      have b := rPc_bd hi.1 hi.2 hiw
      obtain ⟨e1, e2, e3⟩ := rPc_next (x := x) (v := u)
      have a1 := at_same hi.1 s.1
      have a2 := at_same hi.1 s.2.1
      rw [← e2, ← e3] at a1
      rw [← e1, ← e3] at a2
      rw [ltV_same a1 a2]
      unfold ltV
      dsimp only
      have := Int.mul_lt_mul_of_pos_right b.2.2.2.1 (show 0 < (rPcS x u).2.2 by omega)
      omega
  · have hi2 := (h.in2 hp).2 x hx
    have s := rPc_seg hi.1 hi.2 hi2.2
    have b := rPc_bd hi.1 hi.2 hi2.2
    obtain ⟨e1, e2, e3⟩ := rPc_next (x := x) (v := u)
    have a1 := at_same hi.1 s.1
    have a2 := at_same hi.1 s.2.1
    rw [← e2, ← e3] at a1
    rw [← e1, ← e3] at a2
    have hp0 := h.p0
    have hp1 := h.p1
    have hd : 0 < (rPcS x u).2.2 := by omega
    have hs : sameV (shareS x u p) ((rPcS x u).1 * p.2 + ((rPcS x u).2.1 - (rPcS x u).1) * p.1, (rPcS x u).2.2 * p.2) := by
      rw [share_piece hi.1 hi.2 hi2.2 hp]
      exact sameV_lowest (Int.mul_pos hd (by omega))
    generalize (rPcS x u).1 = n at *
    generalize (rPcS x u).2.1 = m at *
    generalize (rPcS x u).2.2 = d at *
    have m1 := Int.mul_nonneg (Int.mul_nonneg (show 0 ≤ n - m by omega) hp0) (Int.le_of_lt hd)
    have m2 := Int.mul_nonneg (Int.mul_nonneg (show 0 ≤ n - m by omega) (show 0 ≤ p.2 - p.1 by omega)) (Int.le_of_lt hd)
    refine ⟨?_, fun w _ hw _ => ?_⟩
    · rw [ltV_same a1 hs]
      unfold ltV
      dsimp only
      have : (n * p.2 + (m - n) * p.1) * d = n * (d * p.2) - (n - m) * p.1 * d := by grind
      omega
    · rw [hw hp, ltV_same hs a2]
      unfold ltV
      dsimp only
      have : (n * p.2 + (m - n) * p.1) * d = m * (d * p.2) + (n - m) * (p.2 - p.1) * d := by grind
      omega
def pcJ (k : Nat) (s : Int × Int × Int) : Prop := (0 < s.2.2 ∧ s.2.2 ≤ 60 ^ k) ∧ s.2.1 ≤ s.1 ∧ 60 * (s.1 - s.2.1) ≤ 2000 * k * 60 ^ k
theorem seg_thin {x : List (Int × Int)} (hx : lineS x = 0) (ht : (x.getD (x.length - 1) (0, 0)).1 ≤ 60) {j : Nat} {v : Int} (hj : inSeg x j v) : segW x j ≤ 60 := by
  have a := volt_le hx (j := j) hj.2.1
  have b := volt_le hx (j := j - 1) (by have := hj.2.1; omega)
  unfold segW
  omega
theorem pcJ_go {v : Int} : ∀ {l : List (List (Int × Int))} {k : Nat} {s : Int × Int × Int}, thin l → inAll l v → inAll l (v + 1) → pcJ k s → pcJ (k + l.length) (rPcGo v l s)
  | [], _, _, _, _, _, h => h
  | x :: r, k, s, ht, h1, h2, h => by
    have hx := h1 x (by simp)
    have hx' := h2 x (by simp)
    obtain ⟨b1, b2, b3, b4, b5⟩ := rPc_bd hx.1 hx.2 hx'.2
    have hd : (rPcS x v).2.2 ≤ 60 := seg_thin hx.1 (ht x (by simp)) (rPc_seg hx.1 hx.2 hx'.2).1
    rw [show k + (x :: r).length = k + 1 + r.length by simp; omega]
    refine pcJ_go (s := (s.1 * (rPcS x v).2.2 + (rPcS x v).1 * s.2.2, s.2.1 * (rPcS x v).2.2 + (rPcS x v).2.1 * s.2.2, s.2.2 * (rPcS x v).2.2)) (fun y hy => ht y (by simp [hy])) (fun y hy => h1 y (by simp [hy])) (fun y hy => h2 y (by simp [hy])) ?_
    obtain ⟨⟨s1, s2⟩, s7, s8⟩ := h
    generalize (rPcS x v).2.2 = d at *
    generalize (rPcS x v).1 = n at *
    generalize (rPcS x v).2.1 = m at *
    obtain ⟨p, q, r⟩ := s
    dsimp only at *
    have hk : (0 : Int) ≤ k := Int.natCast_nonneg k
    have hpow : (0 : Int) < 60 ^ k := Int.pow_pos (by decide)
    have hd0 : 0 ≤ d := by omega
    have hr0 : 0 ≤ r := by omega
    have m9 : r * d ≤ 60 ^ k * 60 := Int.mul_le_mul s2 hd hd0 (by omega)
    have m10 := Int.mul_nonneg (show 0 ≤ p - q by omega) hd0
    have m11 := Int.mul_nonneg (show 0 ≤ n - m by omega) hr0
    have m12 : 60 * (p - q) * d ≤ 2000 * k * 60 ^ k * 60 := Int.mul_le_mul s8 hd hd0 (Int.mul_nonneg (Int.mul_nonneg (by decide) hk) (Int.le_of_lt hpow))
    have m13 : (n - m) * r ≤ 2000 * 60 ^ k := Int.mul_le_mul b5 s2 hr0 (by decide)
    have ep : (60 : Int) ^ (k + 1) = 60 ^ k * 60 := Int.pow_succ _ _
    have ek : ((k + 1 : Nat) : Int) = (k : Int) + 1 := by omega
    unfold pcJ
    dsimp only
    rw [ep, ek]
    generalize (60 : Int) ^ k = w at *
    generalize (k : Int) = z at *
    refine ⟨⟨Int.mul_pos s1 (by omega), m9⟩, ?_, ?_⟩
    · have e1 : (p - q) * d = p * d - q * d := Int.sub_mul _ _ _
      have e2 : (n - m) * r = n * r - m * r := Int.sub_mul _ _ _
      omega
    · have e1 : 60 * (p * d + n * r - (q * d + m * r)) = 60 * (p - q) * d + 60 * ((n - m) * r) := by grind
      have e2 : 2000 * (z + 1) * (w * 60) = 2000 * z * w * 60 + 60 * (2000 * w) := by grind
      omega
theorem found_part {l : List (List (Int × Int))} {load u : Int} {p : Int × Int} (h : linesS l = 0) (hL : -3000 ≤ load ∧ load ≤ 3000) (ht : thin l) (hc : crossS l load = some (u, p)) : 0 < p.2 ∧ p.2 ≤ 21600000 := by
  obtain ⟨l1, l3, _⟩ := lines_ok h
  have hall : ∀ v, (comS l).1 ≤ v → v ≤ (comS l).2 → inAll l v := fun v h1 h2 => lines_in h ⟨h1, h2⟩
  obtain ⟨⟨a1, a2⟩, a3⟩ := cross_char h hc
  rcases a3 with ⟨rfl, e⟩ | ⟨e1, e2, e3, e4⟩
  · decide
  · have i1 := hall u a1 a2
    have i2 := hall (u + 1) (by omega) (by omega)
    obtain ⟨v1, v2, v3⟩ := partL_val i1 i2 e2 e3
    have hj := pcJ_go (k := 0) (s := (0, 0, 1)) ht i1 i2 (by unfold pcJ; simp)
    rw [Nat.zero_add] at hj
    have er : rPcGo u l (0, 0, 1) = rPcL l u := rfl
    rw [er] at hj
    have hd := lowest_val (n := (rPcL l u).1 - load * (rPcL l u).2.2) (d := (rPcL l u).1 - (rPcL l u).2.1) (by omega)
    have ep : p = lowestS ((rPcL l u).1 - load * (rPcL l u).2.2) ((rPcL l u).1 - (rPcL l u).2.1) := e4
    rw [ep]
    refine ⟨hd.1, ?_⟩
    have h8 := hj.2.2
    have : (rPcL l u).1 - (rPcL l u).2.1 ≤ 21600000 := by
      have : l.length = 1 ∨ l.length = 2 ∨ l.length = 3 := by omega
      rcases this with e | e | e <;> rw [e] at h8 <;> simp at h8 <;> omega
    omega
def shI (p : Int × Int) (k : Nat) (s : Int × Int) : Prop := ∃ E : Int, 0 < E ∧ E ≤ 60 ^ k ∧ ratD s (E * p.2) (1000 * k)
theorem share_rat {l : List (List (Int × Int))} {load u : Int} {p : Int × Int} (h : Found l load u p) (ht : thin l) {x : List (Int × Int)} (hx : x ∈ l) : ∃ d : Int, (1 ≤ d ∧ d ≤ 60) ∧ ratD (shareS x u p) (d * p.2) 1000 := by
  have hi := h.in1 x hx
  by_cases hp : p.1 = 0
  · have e : shareS x u p = atS x u := by unfold shareS; rw [if_pos hp]
    obtain ⟨a1, a2⟩ := atS_ok hi.1 hi.2
    have ep := h.zero hp
    obtain ⟨j, j1, j2, j3, j4, j5, _⟩ := piece_at hi.1 hi.2
    have hw := seg_thin hi.1 (ht x hx) (j := j) (v := u) ⟨j1, j2, j4, j5⟩
    have es : segD x u = segW x j := by
      unfold segD segW gP
      rw [j3]
      congr 2 <;> congr 1 <;> omega
    rw [e, ep]
    refine ⟨segD x u, ⟨a1.1, by omega⟩, ?_⟩
    show ratD (atS x u) (segD x u * 1) 1000
    rw [Int.mul_one]
    exact a2
  · have hi2 := (h.in2 hp).2 x hx
    have s := rPc_seg hi.1 hi.2 hi2.2
    have b := rPc_bd hi.1 hi.2 hi2.2
    have hw := seg_thin hi.1 (ht x hx) s.1
    have hp0 := h.p0
    have hp1 := h.p1
    refine ⟨(rPcS x u).2.2, ⟨b.2.2.1.1, hw⟩, ?_⟩
    rw [share_piece hi.1 hi.2 hi2.2 hp]
    have hd : 0 < (rPcS x u).2.2 := by omega
    obtain ⟨⟨b1, b2⟩, ⟨b3, b4⟩, _⟩ := b
    generalize (rPcS x u).1 = n at *
    generalize (rPcS x u).2.1 = m at *
    generalize (rPcS x u).2.2 = d at *
    refine lowest_ok (Int.mul_pos hd (by omega)) ?_
    have e : n * p.2 + (m - n) * p.1 = n * (p.2 - p.1) + m * p.1 := by grind
    rw [e]
    have q0 : 0 ≤ p.2 - p.1 := by omega
    have m1 := Int.mul_le_mul_of_nonneg_right b1 q0
    have m2 := Int.mul_le_mul_of_nonneg_right b2 q0
    have m3 := Int.mul_le_mul_of_nonneg_right b3 hp0
    have m4 := Int.mul_le_mul_of_nonneg_right b4 hp0
    have e5 : 1000 * (d * p.2) = 1000 * d * (p.2 - p.1) + 1000 * d * p.1 := by grind
    have e6 : -1000 * d * (p.2 - p.1) = -(1000 * d * (p.2 - p.1)) := by grind
    have e7 : -1000 * d * p.1 = -(1000 * d * p.1) := by grind
    omega
theorem pow60 {k : Nat} (h : k ≤ 3) : (60 : Int) ^ k ≤ 216000 := by
  have : k = 0 ∨ k = 1 ∨ k = 2 ∨ k = 3 := by omega
  rcases this with rfl | rfl | rfl | rfl <;> decide
theorem shI_zero {p : Int × Int} : shI p 0 (0, 1) := ⟨1, by decide, by decide, by show (0 : Int) < 1; decide, Int.one_dvd _, by simp, by simp⟩
theorem shI_step {l : List (List (Int × Int))} {load u : Int} {p : Int × Int} (h : Found l load u p) (ht : thin l) (hp : p.2 ≤ 21600000) {k : Nat} {s : Int × Int} (hs : shI p k s) (hk : k < 3) {x : List (Int × Int)} (hx : x ∈ l) :
    (0 < s.2 ∧ s.2 ≤ 5000000000000 ∧ -(3000 * s.2) ≤ s.1 ∧ s.1 ≤ 3000 * s.2) ∧ (0 < (shareS x u p).2 ∧ (shareS x u p).2 ≤ 1296000000 ∧ -(1000 * (shareS x u p).2) ≤ (shareS x u p).1 ∧ (shareS x u p).1 ≤ 1000 * (shareS x u p).2) ∧ lcmS s (shareS x u p) ≤ 5000000000000 ∧ shI p (k + 1) (plusS s (shareS x u p)) := by
  obtain ⟨E, d1, d2, d3⟩ := hs
  obtain ⟨d, e1, e2⟩ := share_rat h ht hx
  have hp2 : 0 < p.2 := by have := h.p0; have := h.p1; omega
  have w1 := pow60 (k := k) (by omega)
  have w2 := pow60 (k := k + 1) (by omega)
  have hE : 0 < E * d ∧ E * d ≤ 60 ^ (k + 1) := by
    refine ⟨Int.mul_pos d1 (by omega), ?_⟩
    rw [Int.pow_succ]
    exact Int.mul_le_mul d2 e1.2 (by omega) (Int.le_of_lt (Int.pow_pos (by decide)))
  have b1 : E * p.2 ≤ 216000 * 21600000 := Int.mul_le_mul (by omega) hp (Int.le_of_lt hp2) (by decide)
  have b2 : E * d * p.2 ≤ 216000 * 21600000 := Int.mul_le_mul (by omega) hp (Int.le_of_lt hp2) (by decide)
  have b3 : d * p.2 ≤ 60 * 21600000 := Int.mul_le_mul e1.2 hp (Int.le_of_lt hp2) (by decide)
  have q1 := Int.mul_pos d1 hp2
  have q2 := Int.mul_pos hE.1 hp2
  have s2 := Int.le_of_dvd q1 d3.2.1
  have hx2 := Int.le_of_dvd (Int.mul_pos (by omega) hp2) e2.2.1
  have m1 := Int.mul_le_mul_of_nonneg_right (show 1000 * (k : Int) ≤ 3000 by omega) (Int.le_of_lt d3.1)
  have u1 : ratD s (E * d * p.2) (1000 * k) := d3.up ⟨d, by grind⟩
  have u2 : ratD (shareS x u p) (E * d * p.2) 1000 := e2.up ⟨E, by grind⟩
  have hl := u1.lcm u2 q2
  obtain ⟨v1, v2, v3, v4⟩ := d3
  obtain ⟨y1, y2, y3, y4⟩ := e2
  refine ⟨⟨v1, by omega, by omega, by omega⟩, ⟨y1, by omega, y3, y4⟩, by omega, E * d, hE.1, hE.2, ?_⟩
  have := u1.plus u2
  rw [show 1000 * ((k + 1 : Nat) : Int) = 1000 * (k : Int) + 1000 by omega]
  exact this
theorem found_at {l : List (List (Int × Int))} {load u : Int} {p : Int × Int} (h0 : linesS l = 0) (h : Found l load u p) : (0 < (plusS (u, 1) p).2 ∧ (plusS (u, 1) p).2 ≤ p.2) ∧ (0 ≤ (plusS (u, 1) p).1 ∧ (plusS (u, 1) p).1 ≤ (comS l).2 * (plusS (u, 1) p).2 ∧ (comS l).1 * (plusS (u, 1) p).2 ≤ (plusS (u, 1) p).1) ∧ (plusS (u, 1) p).1.tdiv (plusS (u, 1) p).2 = u := by
  obtain ⟨_, _, _, _, l5, l6⟩ := lines_ok h0
  have hp0 := h.p0
  have hp1 := h.p1
  have h1 := h.lo
  have h2 := h.hi
  rw [plus_int (show 0 < p.2 by omega)]
  obtain ⟨c1, c2, c3⟩ := lowest_val (n := u * p.2 + p.1) (d := p.2) (by omega)
  generalize lowestS (u * p.2 + p.1) p.2 = c at *
  have k1 : (c.1 - u * c.2) * p.2 = p.1 * c.2 := by grind
  have k2 : ((u + 1) * c.2 - c.1) * p.2 = (p.2 - p.1) * c.2 := by grind
  have r1 : 0 < (u + 1) * c.2 - c.1 := (pos_iff (show 0 < p.2 by omega) c1 k2).2 (by omega)
  have r0 : 0 ≤ c.1 - u * c.2 := by
    rcases Int.lt_or_le (c.1 - u * c.2) 0 with hlt | hge
    · have := Int.mul_neg_of_neg_of_pos hlt (show 0 < p.2 by omega)
      have := Int.mul_nonneg hp0 (Int.le_of_lt c1)
      omega
    · exact hge
  have hu := Int.mul_nonneg (show 0 ≤ u by omega) (Int.le_of_lt c1)
  have hlo := Int.mul_le_mul_of_nonneg_right h1 (Int.le_of_lt c1)
  have e1 : (u + 1) * c.2 = u * c.2 + c.2 := by grind
  refine ⟨⟨c1, c3⟩, ⟨by omega, ?_, by omega⟩, ?_⟩
  · by_cases hp : p.1 = 0
    · have hz := h.zero hp
      subst hz
      simp only [Int.mul_one, Int.zero_mul] at k1
      have hhi := Int.mul_le_mul_of_nonneg_right h2 (Int.le_of_lt c1)
      omega
    · have := (h.in2 hp).1
      have hhi := Int.mul_le_mul_of_nonneg_right this (Int.le_of_lt c1)
      omega
  · rw [Int.tdiv_eq_ediv_of_nonneg (by omega)]
    have a := (Int.le_ediv_iff_mul_le (a := u) (b := c.1) c1).2 (by omega)
    have b := Int.ediv_lt_of_lt_mul c1 (show c.1 < (u + 1) * c.2 by omega)
    omega
def aSumGo (v : Int) : List (List (Int × Int)) → Int × Int → Int × Int
  | [], s => s
  | x :: r, s => aSumGo v r (s.1 * (atS x v).2 + (atS x v).1 * s.2, s.2 * (atS x v).2)
def aSumS (l : List (List (Int × Int))) (v : Int) : Int × Int := aSumGo v l (0, 1)
theorem aSumGo_drop {v : Int} {l : List (List (Int × Int))} {k : Nat} {s : Int × Int} (h : k < l.length) : aSumGo v (l.drop k) s = aSumGo v (l.drop (k + 1)) (s.1 * (atS (l.getD k []) v).2 + (atS (l.getD k []) v).1 * s.2, s.2 * (atS (l.getD k []) v).2) := by
  have e1 : l.getD k [] = l[k] := by simp [List.getD_eq_getElem?_getD, h]
  rw [List.drop_eq_getElem_cons h, e1]
  rfl
theorem aSumGo_same {v : Int} : ∀ {l : List (List (Int × Int))} {s t : Int × Int}, inAll l v → sameV s t → sameV (sumGo v l s) (aSumGo v l t)
  | [], _, _, _, h => h
  | x :: r, s, t, hl, h => by
    have hx := hl x (by simp)
    have ha := atS_ok hx.1 hx.2
    exact aSumGo_same (t := (t.1 * (atS x v).2 + (atS x v).1 * t.2, t.2 * (atS x v).2)) (fun y hy => hl y (by simp [hy])) (sameV_plus (n := (atS x v).1) (d := (atS x v).2) h ⟨ha.2.1, ha.2.1, rfl⟩)
def asI (k : Nat) (s : Int × Int) : Prop := (0 < s.2 ∧ s.2 ≤ 60 ^ k) ∧ -(1000 * k * s.2) ≤ s.1 ∧ s.1 ≤ 1000 * k * s.2
theorem at_thin {l : List (List (Int × Int))} {v : Int} (h : inAll l v) (ht : thin l) {x : List (Int × Int)} (hx : x ∈ l) : (1 ≤ (atS x v).2 ∧ (atS x v).2 ≤ 60) ∧ -(1000 * (atS x v).2) ≤ (atS x v).1 ∧ (atS x v).1 ≤ 1000 * (atS x v).2 := by
  have hi := h x hx
  obtain ⟨a1, a2, a3, a4⟩ := atS_ok hi.1 hi.2
  obtain ⟨j, j1, j2, j3, j4, j5, _⟩ := piece_at hi.1 hi.2
  have hw := seg_thin hi.1 (ht x hx) (j := j) (v := v) ⟨j1, j2, j4, j5⟩
  have es : segD x v = segW x j := by
    unfold segD segW gP
    rw [j3]
    congr 2 <;> congr 1 <;> omega
  have := Int.le_of_dvd (by omega) a3
  exact ⟨⟨by omega, by omega⟩, a4⟩
theorem asI_step {l : List (List (Int × Int))} {v : Int} (h : inAll l v) (ht : thin l) {k : Nat} {s : Int × Int} (hs : asI k s) {x : List (Int × Int)} (hx : x ∈ l) : asI (k + 1) (s.1 * (atS x v).2 + (atS x v).1 * s.2, s.2 * (atS x v).2) := by
  obtain ⟨⟨a1, a2⟩, a3, a4⟩ := at_thin h ht hx
  obtain ⟨⟨s1, s2⟩, s3, s4⟩ := hs
  generalize (atS x v).2 = d at *
  generalize (atS x v).1 = n at *
  obtain ⟨p, r⟩ := s
  dsimp only at *
  have hpow : (0 : Int) < 60 ^ k := Int.pow_pos (by decide)
  have hd0 : 0 ≤ d := by omega
  have hr0 : 0 ≤ r := by omega
  have m1 := Int.mul_le_mul_of_nonneg_right s3 hd0
  have m2 := Int.mul_le_mul_of_nonneg_right s4 hd0
  have m5 := Int.mul_le_mul_of_nonneg_right a3 hr0
  have m6 := Int.mul_le_mul_of_nonneg_right a4 hr0
  have m9 : r * d ≤ 60 ^ k * 60 := Int.mul_le_mul s2 a2 hd0 (by omega)
  have ep : (60 : Int) ^ (k + 1) = 60 ^ k * 60 := Int.pow_succ _ _
  have ek : ((k + 1 : Nat) : Int) = (k : Int) + 1 := by omega
  unfold asI
  dsimp only
  rw [ep, ek]
  generalize (k : Int) = z at *
  have e2 : 1000 * (z + 1) * (r * d) = 1000 * z * r * d + 1000 * d * r := by grind
  have e3 : -(1000 * z * r) * d = -(1000 * z * r * d) := by grind
  have e4 : -(1000 * d) * r = -(1000 * d * r) := by grind
  exact ⟨⟨Int.mul_pos s1 (by omega), m9⟩, by omega, by omega⟩
theorem hit_of {l : List (List (Int × Int))} {v L : Int} (h : inAll l v) (hL : (aSumS l v).1 = L * (aSumS l v).2) : sgS l L v = 0 := by
  have hs : sameV (sumS l v) (aSumS l v) := aSumGo_same h ⟨by decide, by decide, rfl⟩
  unfold sgS
  rw [(sameV_cmp hs L).1]
  exact hL
theorem rSumGo_add {w b : Int} : ∀ {l : List (List (Int × Int))} {s : Int × Int}, rSumGo w l (s.1 + b * s.2, s.2) = ((rSumGo w l s).1 + b * (rSumGo w l s).2, (rSumGo w l s).2)
  | [], _ => rfl
  | x :: r, s => by
    simp only [rSumGo]
    have := rSumGo_add (w := w) (b := b) (l := r) (s := (s.1 * (rAtS x w).2 + (rAtS x w).1 * s.2, s.2 * (rAtS x w).2))
    rw [← this]
    congr 2
    dsimp only
    grind
def upL (x : List (Int × Int)) (b : Int) : List (Int × Int) := x.map fun p => (p.1, p.2 + b)
theorem up_get {x : List (Int × Int)} {b : Int} {k : Nat} (hk : k < x.length) : (upL x b).getD k (0, 0) = ((x.getD k (0, 0)).1, (x.getD k (0, 0)).2 + b) := by
  unfold upL
  simp [List.getD_eq_getElem?_getD, hk]
theorem up_idx {x : List (Int × Int)} {b v : Int} : ∀ {f i : Nat}, i + f ≤ x.length → rIdx (upL x b) v i f = rIdx x v i f
  | 0, _, _ => rfl
  | f + 1, i, h => by
    unfold rIdx
    rw [up_get (by omega), up_idx (by omega)]
theorem up_idx2 {x : List (Int × Int)} {b v : Int} (hv : v ≤ (x.getD (x.length - 1) (0, 0)).1) : ∀ {f i : Nat}, 1 ≤ i → i < x.length → rIdx (upL x b) v i f = rIdx x v i f
  | 0, _, _, _ => rfl
  | f + 1, i, h1, h2 => by
    unfold rIdx
    rw [up_get h2]
    by_cases hlt : (x.getD i (0, 0)).1 < v
    · rw [if_pos hlt, if_pos hlt]
      have : i + 1 < x.length := by
        rcases Nat.lt_or_ge (i + 1) x.length with h | h
        · exact h
        · have : i = x.length - 1 := by omega
          rw [this] at hlt; omega
      exact up_idx2 hv (by omega) this
    · rw [if_neg hlt, if_neg hlt]
theorem up_at {x : List (Int × Int)} {b v : Int} (hx : lineS x = 0) (hv : inS x v) : rAtS (upL x b) v = ((rAtS x v).1 + b * (rAtS x v).2, (rAtS x v).2) := by
  have hl := (line_ok hx).1.1
  obtain ⟨hs, _⟩ := rAt_seg (checkAt_of hx hv)
  have e : rPiece (upL x b) v = rPiece x v := by
    unfold rPiece
    rw [show (upL x b).length = x.length by simp [upL]]
    exact up_idx2 hv.2 (Nat.le_refl _) (by omega)
  unfold rAtS
  rw [e, up_get (by have := hs.2.1; omega), up_get hs.2.1]
  dsimp only
  simp only [Prod.mk.injEq, and_true]
  grind
theorem moved_facts {x : List (Int × Int)} {b : Int} (hx : lineS x = 0) (hb : -2000 ≤ b ∧ b ≤ 2000) : ((movedF x b).2 = 0 ∧ (movedF x b).1 = upL x b ∧ lineS (upL x b) = 0) ∨ (movedF x b).2 = 4 := by
  have h0 : movedErr x b = 0 := by
    unfold movedErr
    rw [firstS_zero, firstS_zero]
    exact ⟨hx, withinS_in hb, rfl⟩
  unfold movedF
  rw [if_neg (by simpa using h0)]
  by_cases h : lineS (x.map fun p => (p.1, p.2 + b)) = 0
  · left
    simp only [h, ne_eq, not_true, if_false]
    exact ⟨trivial, rfl, h⟩
  · right
    simp [h]
theorem up_ends {x : List (Int × Int)} {b : Int} (hx : lineS x = 0) : endsS (upL x b) = endsS x := by
  have hl := (line_ok hx).1.1
  have el : (upL x b).length = x.length := by simp [upL]
  unfold endsS
  rw [el, up_get (by omega), up_get (by omega)]
theorem up_com {x : List (Int × Int)} {r : List (List (Int × Int))} {b : Int} (hx : lineS x = 0) : comS (upL x b :: r) = comS (x :: r) := by
  unfold comS
  simp only [List.getD_cons_zero, comGo, up_ends hx]
theorem up_lines {x : List (Int × Int)} {r : List (List (Int × Int))} {b : Int} (h : linesS (x :: r) = 0) (hu : lineS (upL x b) = 0) : linesS (upL x b :: r) = 0 := by
  obtain ⟨_, _, l3, _⟩ := lines_ok h
  have hx := l3 x (by simp)
  have e : linesE (upL x b :: r) = linesE (x :: r) := by
    unfold linesE
    simp only [List.length_cons, List.map_cons, hx, hu]
  unfold linesS at *
  rw [e, up_com hx]
  exact h
theorem up_hit {x : List (Int × Int)} {r : List (List (Int × Int))} {b v L : Int} (h : linesS (x :: r) = 0) (hu : lineS (upL x b) = 0) (hv : (comS (x :: r)).1 ≤ v ∧ v ≤ (comS (x :: r)).2) (hs : sgS (x :: r) L v = 0) : crossS (upL x b :: r) (L + b) = some (v, 0, 1) := by
  obtain ⟨_, _, l3, _⟩ := lines_ok h
  have hx := l3 x (by simp)
  have hl := up_lines h hu
  have hc := up_com (r := r) (b := b) hx
  refine cross_hit hl (by rw [hc]; exact hv.1) (by rw [hc]; exact hv.2) ?_
  have i1 := lines_in h hv
  have i2 := lines_in hl (v := v) (by rw [hc]; exact hv)
  have s1 := sum_same (l := x :: r) i1
  have s2 := sum_same (l := upL x b :: r) i2
  unfold sgS at *
  rw [(sameV_cmp s2 (L + b)).1]
  have k := (sameV_cmp s1 L).1.1 hs
  have e : rSumS (upL x b :: r) v = ((rSumS (x :: r) v).1 + b * (rSumS (x :: r) v).2, (rSumS (x :: r) v).2) := by
    unfold rSumS
    simp only [rSumGo]
    rw [up_at hx (i1 x (by simp)).2]
    have := rSumGo_add (w := v) (b := b) (l := r) (s := (0 * (rAtS x v).2 + (rAtS x v).1 * 1, 1 * (rAtS x v).2))
    rw [← this]
    congr 2
    dsimp only
    grind
  rw [e]
  dsimp only
  rw [k]
  grind
theorem less_ne {p q r s : Int} (hq : 0 < q) (hs : 0 < s) (h : p / q < r / s) : p * s < r * q := by
  have h1 := Int.lt_mul_ediv_self_add (x := p) (k := q) hq
  have h2 := Int.mul_ediv_self_le (x := r) (k := s) (by omega)
  generalize p / q = x at *
  generalize r / s = y at *
  have m1 : p * s < (q * x + q) * s := Int.mul_lt_mul_of_pos_right h1 hs
  have m2 : (s * y) * q ≤ r * q := Int.mul_le_mul_of_nonneg_right h2 (Int.le_of_lt hq)
  have m3 : (x + 1) * (q * s) ≤ y * (q * s) := Int.mul_le_mul_of_nonneg_right (by omega) (Int.le_of_lt (Int.mul_pos hq hs))
  have e1 : (q * x + q) * s = (x + 1) * (q * s) := by grind
  have e2 : (s * y) * q = y * (q * s) := by grind
  omega
theorem less_cmp {p q r s : Int} (hq : 0 < q) (hs : 0 < s) (h : p / q ≠ r / s) : decide (p / q < r / s) = decide (p * s < r * q) := by
  rcases Int.lt_or_gt_of_ne h with h1 | h1
  · rw [decide_eq_true h1, decide_eq_true (less_ne hq hs h1)]
  · have := less_ne hs hq h1
    rw [decide_eq_false (by omega), decide_eq_false (by omega)]
theorem less_cut {p q r s x : Int} : p * s < r * q ↔ (p - x * q) * s < (r - x * s) * q := by
  have e1 : (p - x * q) * s = p * s - x * (q * s) := by grind
  have e2 : (r - x * s) * q = r * q - x * (q * s) := by grind
  omega
theorem floor_rest {p q : Int} (hq : 0 < q) : 0 ≤ p - p / q * q ∧ p - p / q * q < q := by
  have h1 := Int.lt_mul_ediv_self_add (x := p) (k := q) hq
  have h2 := Int.mul_ediv_self_le (x := p) (k := q) (by omega)
  rw [Int.mul_comm (p / q) q]
  omega
end Go.Proofs.YtacaadhlobbemaaGreatDoor
namespace Go.Proofs.YtacaadhlobbemaaGreatDoor
open Go.Sx
def cX2 : Con := { args := [a3], ress := [(true, s3)], owns := [], pre := fun _ => [], spec := fun (x, _) => (x, ()) }
theorem vc81 : ∀ (x : Int × Int × Int), wpF Tryz.prog G133 (na ()) Tryz.f81 cX2 (x, ()) = ((x.fst, x.snd.fst, x.snd.snd) = x) := by
  intros
  kernel_rfl
theorem wp81 (x : Int × Int × Int) : wpF Tryz.prog G133 (na ()) Tryz.f81 cX2 (x, ()) := by
  refine (vc81 x).mpr ?_
  rfl
theorem ok81 : Ok Tryz.prog 81 cX2 := ok_of_wp mixed g133 (by kernel_rfl) (by kernel_rfl) na fun xx => wp81 xx.1
abbrev G134 : Gam := (81, cX2) :: G133
theorem g134 : GamOk Tryz.prog G134 := .cons ok81 g133
end Go.Proofs.YtacaadhlobbemaaGreatDoor
namespace Go.Proofs.YtacaadhlobbemaaGreatDoor
open Go.Sx
set_option maxHeartbeats 20000000
def rsI (k : Nat) (s : Int × Int) : Prop := (0 < s.2 ∧ s.2 ≤ 1000 ^ k) ∧ -(1000 * k * s.2) ≤ s.1 ∧ s.1 ≤ 1000 * k * s.2
theorem rsI_step {k : Nat} {s : Int × Int} {x : List (Int × Int)} {v : Int} (hs : rsI k s) (hx : lineS x = 0) (hv : inS x v) : rsI (k + 1) (s.1 * (rAtS x v).2 + (rAtS x v).1 * s.2, s.2 * (rAtS x v).2) := by
  obtain ⟨hr, e'⟩ := rAt_seg (checkAt_of hx hv)
  have hb := seg_bd hx hr
  rw [e']
  dsimp only
  obtain ⟨⟨a3, a4⟩, a1, a2⟩ := hb
  obtain ⟨⟨s1, s2⟩, s3, s4⟩ := hs
  generalize segW x (rPiece x v) = d at *
  generalize segN x (rPiece x v) v = n at *
  obtain ⟨p, r⟩ := s
  dsimp only at *
  have hpow : (0 : Int) < 1000 ^ k := Int.pow_pos (by decide)
  have hd0 : 0 ≤ d := by omega
  have hr0 : 0 ≤ r := by omega
  have m1 := Int.mul_le_mul_of_nonneg_right s3 hd0
  have m2 := Int.mul_le_mul_of_nonneg_right s4 hd0
  have m5 := Int.mul_le_mul_of_nonneg_right a3 hr0
  have m6 := Int.mul_le_mul_of_nonneg_right a4 hr0
  have m9 : r * d ≤ 1000 ^ k * 1000 := Int.mul_le_mul s2 a2 hd0 (by omega)
  have ep : (1000 : Int) ^ (k + 1) = 1000 ^ k * 1000 := Int.pow_succ _ _
  have ek : ((k + 1 : Nat) : Int) = (k : Int) + 1 := by omega
  unfold rsI
  dsimp only
  rw [ep, ek]
  generalize (k : Int) = z at *
  have e2 : 1000 * (z + 1) * (r * d) = 1000 * z * r * d + 1000 * d * r := by grind
  have e3 : -(1000 * z * r) * d = -(1000 * z * r * d) := by grind
  have e4 : -1000 * d * r = -(1000 * d * r) := by grind
  exact ⟨⟨Int.mul_pos s1 (by omega), m9⟩, by omega, by omega⟩
theorem rsI_three {k : Nat} {s : Int × Int} (h : rsI k s) (hk : k ≤ 3) : (0 < s.2 ∧ s.2 ≤ 1000000000) ∧ -3000000000000 ≤ s.1 ∧ s.1 ≤ 3000000000000 := by
  obtain ⟨⟨s1, s2⟩, s3, s4⟩ := h
  rcases k with _ | _ | _ | _ | k
  · simp at s2 s3 s4; omega
  · simp at s2 s3 s4; omega
  · simp at s2 s3 s4; omega
  · simp at s2 s3 s4; omega
  · omega
theorem rSumGo_drop {v : Int} {l : List (List (Int × Int))} {k : Nat} {s : Int × Int} (h : k < l.length) : rSumGo v (l.drop k) s = rSumGo v (l.drop (k + 1)) (s.1 * (rAtS (l.getD k []) v).2 + (rAtS (l.getD k []) v).1 * s.2, s.2 * (rAtS (l.getD k []) v).2) := by
  have e1 : l.getD k [] = l[k] := by simp [List.getD_eq_getElem?_getD, h]
  rw [List.drop_eq_getElem_cons h, e1]
  rfl
theorem rPcGo_drop {v : Int} {l : List (List (Int × Int))} {k : Nat} {s : Int × Int × Int} (h : k < l.length) : rPcGo v (l.drop k) s = rPcGo v (l.drop (k + 1)) (s.1 * (rPcS (l.getD k []) v).2.2 + (rPcS (l.getD k []) v).1 * s.2.2, s.2.1 * (rPcS (l.getD k []) v).2.2 + (rPcS (l.getD k []) v).2.1 * s.2.2, s.2.2 * (rPcS (l.getD k []) v).2.2) := by
  have e1 : l.getD k [] = l[k] := by simp [List.getD_eq_getElem?_getD, h]
  rw [List.drop_eq_getElem_cons h, e1]
  rfl
theorem getD_memL {l : List (List (Int × Int))} {k : Nat} (h : k < l.length) : l.getD k [] ∈ l := getD_mem h
def cRSum : Con := { args := [aLL 22 132, aI], ress := [I, I], owns := [], pre := fun (l, v, _) => [l.length ≤ 3, inAll l v], spec := fun (l, v, _) => ((rSumS l v).1, (rSumS l v).2, ()) }
abbrev annRSum (l : List (List (Int × Int))) (v : Int) : Ann := { X := Nat × Int × Int, σ := fun (k, a, b) => ⟨1, [(0, .one (.sl 0)), (1, .one (.int .i64 v)), (6, .one (.int .i64 a)), (7, .one (.int .i64 b)), (8, .one (.int .i64 k))], [(0, .imm 22 (.list 132 sPt) l)]⟩, inv := fun (k, a, b) => k ≤ l.length ∧ rsI k (a, b) ∧ rSumS l v = rSumGo v (l.drop k) (a, b), mu := fun (k, _) => l.length - k }
theorem vc115 : ∀ (l : List (List (Int × Int))) (v : Int), wpF Tryz.prog G134 (ann0 (annRSum l v)) Tryz.f115 cRSum (l, v, ()) = (List.length l ≤ (3 : Nat) → inAll l v → ∃ (x : Nat × Int × Int), (v = v ∧ (0 : Int) = x.2.1 ∧ (1 : Int) = x.2.2 ∧ (0 : Int) = (↑x.1 : Int) ∧ l = l) ∧ (x.fst ≤ List.length l ∧ rsI x.fst (x.2.fst, x.2.snd) ∧ rSumS l v = rSumGo v (List.drop x.fst l) (x.2.fst, x.2.snd)) ∧ ∀ (x : Nat × Int × Int), x.fst ≤ List.length l ∧ rsI x.fst (x.2.fst, x.2.snd) ∧ rSumS l v = rSumGo v (List.drop x.fst l) (x.2.fst, x.2.snd) → (decide ((↑x.1 : Int) < (↑(List.length l) : Int)) = true → (((0 : Int) ≤ (↑x.1 : Int) ∧ (↑x.1 : Int) < (↑(List.length l) : Int)) ∧ ((0 : Int) ≤ (↑x.1 : Int) ∧ (↑x.1 : Int) < (↑(List.length l) : Int)) ∧ checkAtS (List.getD l x.1 []) v = (0 : Int)) ∧ (((-9223372036854775808 : Int) ≤ x.2.1 * (rAtS (List.getD l x.1 []) v).snd ∧ x.2.1 * (rAtS (List.getD l x.1 []) v).snd ≤ (9223372036854775807 : Int)) ∧ ((-9223372036854775808 : Int) ≤ (rAtS (List.getD l x.1 []) v).fst * x.2.2 ∧ (rAtS (List.getD l x.1 []) v).fst * x.2.2 ≤ (9223372036854775807 : Int)) ∧ ((-9223372036854775808 : Int) ≤ x.2.1 * (rAtS (List.getD l x.1 []) v).snd + (rAtS (List.getD l x.1 []) v).fst * x.2.2 ∧ x.2.1 * (rAtS (List.getD l x.1 []) v).snd + (rAtS (List.getD l x.1 []) v).fst * x.2.2 ≤ (9223372036854775807 : Int)) ∧ (-9223372036854775808 : Int) ≤ x.2.2 * (rAtS (List.getD l x.1 []) v).snd ∧ x.2.2 * (rAtS (List.getD l x.1 []) v).snd ≤ (9223372036854775807 : Int)) ∧ ((-9223372036854775808 : Int) ≤ (↑x.1 : Int) + (1 : Int) ∧ (↑x.1 : Int) + (1 : Int) ≤ (9223372036854775807 : Int)) ∧ ∃ (y : Nat × Int × Int), (v = v ∧ x.2.1 * (rAtS (List.getD l x.1 []) v).snd + (rAtS (List.getD l x.1 []) v).fst * x.2.2 = y.2.1 ∧ x.2.2 * (rAtS (List.getD l x.1 []) v).snd = y.2.2 ∧ (↑x.1 : Int) + (1 : Int) = (↑y.1 : Int) ∧ l = l) ∧ (y.fst ≤ List.length l ∧ rsI y.fst (y.2.fst, y.2.snd) ∧ rSumS l v = rSumGo v (List.drop y.fst l) (y.2.fst, y.2.snd)) ∧ List.length l - y.fst < List.length l - x.fst) ∧ (decide ((↑x.1 : Int) < (↑(List.length l) : Int)) = false → x.2.1 = (rSumS l v).fst ∧ x.2.2 = (rSumS l v).snd)) := by
  intros
  kernel_rfl
theorem wp115 (l : List (List (Int × Int))) (v : Int) : wpF Tryz.prog G134 (ann0 (annRSum l v)) Tryz.f115 cRSum (l, v, ()) := by
  refine (vc115 l v).mpr ?_
  intro h3 hall
  refine ⟨(0, 0, 1), by simp, ⟨Nat.zero_le _, by unfold rsI; simp, rfl⟩, ?_⟩
  rintro ⟨k, a, b⟩ ⟨i1, i2, i3⟩
  dsimp only at i1 i2 i3 ⊢
  refine ⟨fun h => ?_, fun h => ?_⟩
  · have hlt : k < l.length := by simpa using h
    have hx := hall _ (getD_memL hlt)
    have hst := rsI_step i2 hx.1 hx.2
    have b0 := rsI_three i2 (by omega)
    have b1 := rsI_three hst (by omega)
    have bd := rAt_bd (checkAt_of hx.1 hx.2)
    have hdr := rSumGo_drop (v := v) (s := (a, b)) hlt
    dsimp only at hst b0 b1 hdr
    have m1 := mul_bd (a := a) (b := (rAtS (l.getD k []) v).2) (A := 3000000000000) (B := 1000) ⟨by omega, by omega⟩ ⟨by omega, by omega⟩
    have m2 := mul_bd (a := (rAtS (l.getD k []) v).1) (b := b) (A := 1000000) (B := 1000000000) ⟨by omega, by omega⟩ ⟨by omega, by omega⟩
    refine ⟨⟨by omega, by omega, checkAt_of hx.1 hx.2⟩, ⟨by omega, by omega, by omega, by omega⟩, by omega, (k + 1, _, _), ⟨rfl, rfl, rfl, by simp, rfl⟩, ⟨hlt, hst, ?_⟩, by omega⟩
    rw [i3, hdr]
  · have hlt : ¬ k < l.length := by simpa using h
    have e : k = l.length := by omega
    subst e
    rw [List.drop_length] at i3
    rw [i3]
    exact ⟨rfl, rfl⟩
theorem ok115 : Ok Tryz.prog 115 cRSum := ok_of_wp mixed g134 (by kernel_rfl) (by kernel_rfl) (fun xx => ann0 (annRSum xx.1 xx.2.1)) fun xx => wp115 xx.1 xx.2.1
abbrev G135 : Gam := (115, cRSum) :: G134
theorem g135 : GamOk Tryz.prog G135 := .cons ok115 g134
def cRPiece : Con := { args := [aL 132, aI], ress := [I, I, I], owns := [], pre := fun (x, v, _) => [lineS x = 0, inS x v, inS x (v + 1)], spec := fun (x, v, _) => ((rPcS x v).1, (rPcS x v).2.1, (rPcS x v).2.2, ()) }
abbrev annRPiece (l : List (Int × Int)) (v : Int) : Ann := { X := Nat, σ := fun k => ⟨1, [(0, .one (.sl 0)), (1, .one (.int .i64 v)), (7, .one (.int .i64 k))], [(0, .imm 132 sPt l)]⟩, inv := fun k => 1 ≤ k ∧ k < l.length ∧ rPiece l (v + 1) = rIdx l (v + 1) k (l.length + 1 - k), mu := fun k => l.length - k }
theorem vc116 : ∀ (x : List (Int × Int)) (v : Int), wpF Tryz.prog G135 (ann0 (annRPiece x v)) Tryz.f116 cRPiece (x, v, ()) = (lineS x = (0 : Int) → inS x v → inS x (v + (1 : Int)) → ∃ (x_1 : Nat), (v = v ∧ (1 : Int) = (↑x_1 : Int) ∧ x = x) ∧ ((1 : Nat) ≤ x_1 ∧ x_1 < List.length x ∧ rPiece x (v + (1 : Int)) = rIdx x (v + (1 : Int)) x_1 (List.length x + (1 : Nat) - x_1)) ∧ ∀ (x_2 : Nat), (1 : Nat) ≤ x_2 ∧ x_2 < List.length x ∧ rPiece x (v + (1 : Int)) = rIdx x (v + (1 : Int)) x_2 (List.length x + (1 : Nat) - x_2) → (((0 : Int) ≤ (↑x_2 : Int) ∧ (↑x_2 : Int) < (↑(List.length x) : Int)) ∧ (0 : Int) ≤ (↑x_2 : Int) ∧ (↑x_2 : Int) < (↑(List.length x) : Int)) ∧ (decide ((List.getD x x_2 ((0 : Int), (0 : Int))).fst ≤ v) = true → ((-9223372036854775808 : Int) ≤ (↑x_2 : Int) + (1 : Int) ∧ (↑x_2 : Int) + (1 : Int) ≤ (9223372036854775807 : Int)) ∧ ∃ (y : Nat), (v = v ∧ (↑x_2 : Int) + (1 : Int) = (↑y : Int) ∧ x = x) ∧ ((1 : Nat) ≤ y ∧ y < List.length x ∧ rPiece x (v + (1 : Int)) = rIdx x (v + (1 : Int)) y (List.length x + (1 : Nat) - y)) ∧ List.length x - y < List.length x - x_2) ∧ (decide ((List.getD x x_2 ((0 : Int), (0 : Int))).fst ≤ v) = false → (((-9223372036854775808 : Int) ≤ (↑x_2 : Int) - (1 : Int) ∧ (↑x_2 : Int) - (1 : Int) ≤ (9223372036854775807 : Int)) ∧ ((0 : Int) ≤ (↑x_2 : Int) - (1 : Int) ∧ (↑x_2 : Int) - (1 : Int) < (↑(List.length x) : Int)) ∧ ((0 : Int) ≤ (↑x_2 : Int) - (1 : Int) ∧ (↑x_2 : Int) - (1 : Int) < (↑(List.length x) : Int)) ∧ ((0 : Int) ≤ (↑x_2 : Int) ∧ (↑x_2 : Int) < (↑(List.length x) : Int)) ∧ (0 : Int) ≤ (↑x_2 : Int) ∧ (↑x_2 : Int) < (↑(List.length x) : Int)) ∧ ((-9223372036854775808 : Int) ≤ (List.getD x x_2 ((0 : Int), (0 : Int))).fst - (List.getD x (Int.toNat ((↑x_2 : Int) - (1 : Int))) ((0 : Int), (0 : Int))).fst ∧ (List.getD x x_2 ((0 : Int), (0 : Int))).fst - (List.getD x (Int.toNat ((↑x_2 : Int) - (1 : Int))) ((0 : Int), (0 : Int))).fst ≤ (9223372036854775807 : Int)) ∧ (((-9223372036854775808 : Int) ≤ (List.getD x (Int.toNat ((↑x_2 : Int) - (1 : Int))) ((0 : Int), (0 : Int))).snd * ((List.getD x x_2 ((0 : Int), (0 : Int))).fst - (List.getD x (Int.toNat ((↑x_2 : Int) - (1 : Int))) ((0 : Int), (0 : Int))).fst) ∧ (List.getD x (Int.toNat ((↑x_2 : Int) - (1 : Int))) ((0 : Int), (0 : Int))).snd * ((List.getD x x_2 ((0 : Int), (0 : Int))).fst - (List.getD x (Int.toNat ((↑x_2 : Int) - (1 : Int))) ((0 : Int), (0 : Int))).fst) ≤ (9223372036854775807 : Int)) ∧ ((-9223372036854775808 : Int) ≤ (List.getD x x_2 ((0 : Int), (0 : Int))).snd - (List.getD x (Int.toNat ((↑x_2 : Int) - (1 : Int))) ((0 : Int), (0 : Int))).snd ∧ (List.getD x x_2 ((0 : Int), (0 : Int))).snd - (List.getD x (Int.toNat ((↑x_2 : Int) - (1 : Int))) ((0 : Int), (0 : Int))).snd ≤ (9223372036854775807 : Int)) ∧ ((-9223372036854775808 : Int) ≤ v - (List.getD x (Int.toNat ((↑x_2 : Int) - (1 : Int))) ((0 : Int), (0 : Int))).fst ∧ v - (List.getD x (Int.toNat ((↑x_2 : Int) - (1 : Int))) ((0 : Int), (0 : Int))).fst ≤ (9223372036854775807 : Int)) ∧ ((-9223372036854775808 : Int) ≤ ((List.getD x x_2 ((0 : Int), (0 : Int))).snd - (List.getD x (Int.toNat ((↑x_2 : Int) - (1 : Int))) ((0 : Int), (0 : Int))).snd) * (v - (List.getD x (Int.toNat ((↑x_2 : Int) - (1 : Int))) ((0 : Int), (0 : Int))).fst) ∧ ((List.getD x x_2 ((0 : Int), (0 : Int))).snd - (List.getD x (Int.toNat ((↑x_2 : Int) - (1 : Int))) ((0 : Int), (0 : Int))).snd) * (v - (List.getD x (Int.toNat ((↑x_2 : Int) - (1 : Int))) ((0 : Int), (0 : Int))).fst) ≤ (9223372036854775807 : Int)) ∧ (-9223372036854775808 : Int) ≤ (List.getD x (Int.toNat ((↑x_2 : Int) - (1 : Int))) ((0 : Int), (0 : Int))).snd * ((List.getD x x_2 ((0 : Int), (0 : Int))).fst - (List.getD x (Int.toNat ((↑x_2 : Int) - (1 : Int))) ((0 : Int), (0 : Int))).fst) + ((List.getD x x_2 ((0 : Int), (0 : Int))).snd - (List.getD x (Int.toNat ((↑x_2 : Int) - (1 : Int))) ((0 : Int), (0 : Int))).snd) * (v - (List.getD x (Int.toNat ((↑x_2 : Int) - (1 : Int))) ((0 : Int), (0 : Int))).fst) ∧ (List.getD x (Int.toNat ((↑x_2 : Int) - (1 : Int))) ((0 : Int), (0 : Int))).snd * ((List.getD x x_2 ((0 : Int), (0 : Int))).fst - (List.getD x (Int.toNat ((↑x_2 : Int) - (1 : Int))) ((0 : Int), (0 : Int))).fst) + ((List.getD x x_2 ((0 : Int), (0 : Int))).snd - (List.getD x (Int.toNat ((↑x_2 : Int) - (1 : Int))) ((0 : Int), (0 : Int))).snd) * (v - (List.getD x (Int.toNat ((↑x_2 : Int) - (1 : Int))) ((0 : Int), (0 : Int))).fst) ≤ (9223372036854775807 : Int)) ∧ (((-9223372036854775808 : Int) ≤ (List.getD x (Int.toNat ((↑x_2 : Int) - (1 : Int))) ((0 : Int), (0 : Int))).snd * ((List.getD x x_2 ((0 : Int), (0 : Int))).fst - (List.getD x (Int.toNat ((↑x_2 : Int) - (1 : Int))) ((0 : Int), (0 : Int))).fst) + ((List.getD x x_2 ((0 : Int), (0 : Int))).snd - (List.getD x (Int.toNat ((↑x_2 : Int) - (1 : Int))) ((0 : Int), (0 : Int))).snd) * (v - (List.getD x (Int.toNat ((↑x_2 : Int) - (1 : Int))) ((0 : Int), (0 : Int))).fst) + (List.getD x x_2 ((0 : Int), (0 : Int))).snd ∧ (List.getD x (Int.toNat ((↑x_2 : Int) - (1 : Int))) ((0 : Int), (0 : Int))).snd * ((List.getD x x_2 ((0 : Int), (0 : Int))).fst - (List.getD x (Int.toNat ((↑x_2 : Int) - (1 : Int))) ((0 : Int), (0 : Int))).fst) + ((List.getD x x_2 ((0 : Int), (0 : Int))).snd - (List.getD x (Int.toNat ((↑x_2 : Int) - (1 : Int))) ((0 : Int), (0 : Int))).snd) * (v - (List.getD x (Int.toNat ((↑x_2 : Int) - (1 : Int))) ((0 : Int), (0 : Int))).fst) + (List.getD x x_2 ((0 : Int), (0 : Int))).snd ≤ (9223372036854775807 : Int)) ∧ (-9223372036854775808 : Int) ≤ (List.getD x (Int.toNat ((↑x_2 : Int) - (1 : Int))) ((0 : Int), (0 : Int))).snd * ((List.getD x x_2 ((0 : Int), (0 : Int))).fst - (List.getD x (Int.toNat ((↑x_2 : Int) - (1 : Int))) ((0 : Int), (0 : Int))).fst) + ((List.getD x x_2 ((0 : Int), (0 : Int))).snd - (List.getD x (Int.toNat ((↑x_2 : Int) - (1 : Int))) ((0 : Int), (0 : Int))).snd) * (v - (List.getD x (Int.toNat ((↑x_2 : Int) - (1 : Int))) ((0 : Int), (0 : Int))).fst) + (List.getD x x_2 ((0 : Int), (0 : Int))).snd - (List.getD x (Int.toNat ((↑x_2 : Int) - (1 : Int))) ((0 : Int), (0 : Int))).snd ∧ (List.getD x (Int.toNat ((↑x_2 : Int) - (1 : Int))) ((0 : Int), (0 : Int))).snd * ((List.getD x x_2 ((0 : Int), (0 : Int))).fst - (List.getD x (Int.toNat ((↑x_2 : Int) - (1 : Int))) ((0 : Int), (0 : Int))).fst) + ((List.getD x x_2 ((0 : Int), (0 : Int))).snd - (List.getD x (Int.toNat ((↑x_2 : Int) - (1 : Int))) ((0 : Int), (0 : Int))).snd) * (v - (List.getD x (Int.toNat ((↑x_2 : Int) - (1 : Int))) ((0 : Int), (0 : Int))).fst) + (List.getD x x_2 ((0 : Int), (0 : Int))).snd - (List.getD x (Int.toNat ((↑x_2 : Int) - (1 : Int))) ((0 : Int), (0 : Int))).snd ≤ (9223372036854775807 : Int)) ∧ (List.getD x (Int.toNat ((↑x_2 : Int) - (1 : Int))) ((0 : Int), (0 : Int))).snd * ((List.getD x x_2 ((0 : Int), (0 : Int))).fst - (List.getD x (Int.toNat ((↑x_2 : Int) - (1 : Int))) ((0 : Int), (0 : Int))).fst) + ((List.getD x x_2 ((0 : Int), (0 : Int))).snd - (List.getD x (Int.toNat ((↑x_2 : Int) - (1 : Int))) ((0 : Int), (0 : Int))).snd) * (v - (List.getD x (Int.toNat ((↑x_2 : Int) - (1 : Int))) ((0 : Int), (0 : Int))).fst) = (rPcS x v).fst ∧ (List.getD x (Int.toNat ((↑x_2 : Int) - (1 : Int))) ((0 : Int), (0 : Int))).snd * ((List.getD x x_2 ((0 : Int), (0 : Int))).fst - (List.getD x (Int.toNat ((↑x_2 : Int) - (1 : Int))) ((0 : Int), (0 : Int))).fst) + ((List.getD x x_2 ((0 : Int), (0 : Int))).snd - (List.getD x (Int.toNat ((↑x_2 : Int) - (1 : Int))) ((0 : Int), (0 : Int))).snd) * (v - (List.getD x (Int.toNat ((↑x_2 : Int) - (1 : Int))) ((0 : Int), (0 : Int))).fst) + (List.getD x x_2 ((0 : Int), (0 : Int))).snd - (List.getD x (Int.toNat ((↑x_2 : Int) - (1 : Int))) ((0 : Int), (0 : Int))).snd = (rPcS x v).snd.fst ∧ (List.getD x x_2 ((0 : Int), (0 : Int))).fst - (List.getD x (Int.toNat ((↑x_2 : Int) - (1 : Int))) ((0 : Int), (0 : Int))).fst = (rPcS x v).snd.snd)) := by
  intros
  kernel_rfl
theorem wp116 (x : List (Int × Int)) (v : Int) : wpF Tryz.prog G135 (ann0 (annRPiece x v)) Tryz.f116 cRPiece (x, v, ()) := by
  refine (vc116 x v).mpr ?_
  intro h0 hv hv'
  obtain ⟨ho, hg⟩ := line_ok h0
  have hl := ho.1
  have hl8 := ho.2.1
  refine ⟨(1 : Nat), ⟨rfl, rfl, rfl⟩, ⟨Nat.le_refl _, by omega, rfl⟩, fun (k : Nat) hk => ⟨by omega, fun h => ?_, fun h => ?_⟩⟩
  · have hle : (x.getD k (0, 0)).1 ≤ v := by simpa using h
    have hne : k + 1 < x.length := by
      rcases Nat.lt_or_ge (k + 1) x.length with h1 | h1
      · exact h1
      · have : k = x.length - 1 := by omega
        rw [this] at hle; have := hv'.2; omega
    refine ⟨by omega, (k + 1 : Nat), ⟨rfl, by simp, rfl⟩, ⟨by omega, hne, ?_⟩, by omega⟩
    rw [hk.2.2, show x.length + 1 - k = (x.length + 1 - (k + 1)) + 1 by omega, rIdx, if_pos (by omega)]
  · have hge : ¬ (x.getD k (0, 0)).1 ≤ v := by simpa using h
    have hp : rPiece x (v + 1) = k := by
      rw [hk.2.2, show x.length + 1 - k = (x.length + 1 - (k + 1)) + 1 by omega, rIdx, if_neg (by omega)]
    have ek : ((k : Int) - 1).toNat = k - 1 := by omega
    have a0 := (line_at hg (k := k - 1) (by omega)).1
    have b0 := (line_at hg (k := k) (by omega)).1
    have v0 := (line_at hg (k := 0) (by omega)).1
    have v1 := hv.1
    have v2 := (volt_le h0 (j := k) (by omega))
    have v9 := (line_at hg (k := x.length - 1) (by omega)).1
    have v8 := hv'.2
    rw [ek]
    simp only [rPcS, hp]
    unfold segN segW
    generalize x.getD (k - 1) (0, 0) = a at *
    generalize x.getD k (0, 0) = b at *
    have m1 := mul_bd (a := a.2) (b := b.1 - a.1) (A := 1000) (B := 1000) ⟨by omega, by omega⟩ ⟨by omega, by omega⟩
    have m2 := mul_bd (a := b.2 - a.2) (b := v - a.1) (A := 2000) (B := 1000) ⟨by omega, by omega⟩ ⟨by omega, by omega⟩
    exact ⟨by omega, by omega, ⟨by omega, by omega, by omega, by omega, by omega⟩, ⟨by omega, by omega⟩, rfl, rfl, rfl⟩
theorem ok116 : Ok Tryz.prog 116 cRPiece := ok_of_wp mixed g135 (by kernel_rfl) (by kernel_rfl) (fun xx => ann0 (annRPiece xx.1 xx.2.1)) fun xx => wp116 xx.1 xx.2.1
abbrev G136 : Gam := (116, cRPiece) :: G135
theorem g136 : GamOk Tryz.prog G136 := .cons ok116 g135
theorem rSumGo_I {v : Int} : ∀ {l : List (List (Int × Int))} {k : Nat} {s : Int × Int}, inAll l v → rsI k s → rsI (k + l.length) (rSumGo v l s)
  | [], _, _, _, h => h
  | x :: r, k, s, h1, h => by
    have hx := h1 x (by simp)
    have := rSumGo_I (l := r) (k := k + 1) (fun y hy => h1 y (by simp [hy])) (rsI_step h hx.1 hx.2)
    rw [show k + (x :: r).length = k + 1 + r.length by simp; omega]
    exact this
theorem rSumS_I {l : List (List (Int × Int))} {v : Int} (h : inAll l v) (h3 : l.length ≤ 3) : (0 < (rSumS l v).2 ∧ (rSumS l v).2 ≤ 1000000000) ∧ -3000000000000 ≤ (rSumS l v).1 ∧ (rSumS l v).1 ≤ 3000000000000 := by
  have := rSumGo_I (l := l) (k := 0) (s := (0, 1)) h (by unfold rsI; simp)
  exact rsI_three this (by omega)
theorem rCrossGo_step {l : List (List (Int × Int))} {load v : Int} {f : Nat} (h1 : (rSumS l v).1 ≠ load * (rSumS l v).2) (h2 : v ≠ (comS l).2) : rCrossGo l load (comS l).2 v (f + 1) = if load * (rPcL l v).2.2 < (rPcL l v).1 ∧ (rPcL l v).2.1 < load * (rPcL l v).2.2 then
      some (lowestS (v * (lowestS ((rPcL l v).1 - load * (rPcL l v).2.2) ((rPcL l v).1 - (rPcL l v).2.1)).2 + (lowestS ((rPcL l v).1 - load * (rPcL l v).2.2) ((rPcL l v).1 - (rPcL l v).2.1)).1) (lowestS ((rPcL l v).1 - load * (rPcL l v).2.2) ((rPcL l v).1 - (rPcL l v).2.1)).2)
    else rCrossGo l load (comS l).2 (v + 1) f := by
  conv => lhs; unfold rCrossGo
  rw [if_neg h1, if_neg h2]
def cRCross : Con := { args := [aLL 22 132, aI], ress := [Pr, Bo], owns := [], pre := fun (l, load, _) => [linesS l = 0, -3000 ≤ load ∧ load ≤ 3000], spec := fun (l, load, _) => ((rCrossS l load).getD (0, 0), (rCrossS l load).isSome, ()) }
abbrev annRCross (l : List (List (Int × Int))) (load : Int) : Nat → Option Ann := fun id =>
  if id = 0 then some { X := Int, σ := fun v => ⟨2, [(0, .one (.sl 0)), (1, .one (.int .i64 load)), (4, .one (.ptr 1 0)), (7, .one (.int .i64 (comS l).2)), (8, .one (.int .i64 v))], [(0, .imm 22 (.list 132 sPt) l), (1, .box 25 [.int .i64 0, .int .i64 0])]⟩, inv := fun v => (comS l).1 ≤ v ∧ v ≤ (comS l).2 + 1 ∧ rCrossS l load = rCrossGo l load (comS l).2 v ((comS l).2 + 1 - v).toNat, mu := fun v => ((comS l).2 + 1 - v).toNat }
  else if id = 2 then some { X := Int × Nat × Int × Int × Int, σ := fun (v, k, a, b, c) => ⟨2, [(0, .one (.sl 0)), (1, .one (.int .i64 load)), (4, .one (.ptr 1 0)), (7, .one (.int .i64 (comS l).2)), (8, .one (.int .i64 v)), (11, .one (.int .i64 a)), (12, .one (.int .i64 b)), (13, .one (.int .i64 c)), (14, .one (.int .i64 k))], [(0, .imm 22 (.list 132 sPt) l), (1, .box 25 [.int .i64 0, .int .i64 0])]⟩, inv := fun (v, k, a, b, c) => k ≤ l.length ∧ pcI k (a, b, c) ∧ rPcL l v = rPcGo v (l.drop k) (a, b, c) ∧ (comS l).1 ≤ v ∧ v < (comS l).2 ∧ rCrossS l load = rCrossGo l load (comS l).2 v ((comS l).2 + 1 - v).toNat ∧ (rSumS l v).1 ≠ load * (rSumS l v).2, mu := fun (_, k, _) => l.length - k, rel := some fun x y => y.1 = x.1 }
  else none
theorem vc35 : ∀ (l : List (List (Int × Int))) (load : Int), wpF Tryz.prog G136 (annRCross l load) Tryz.f35 cRCross (l, load, ()) = (linesS l = (0 : Int) → (-3000 : Int) ≤ load ∧ load ≤ (3000 : Int) → (List.length l ≤ (1000000 : Nat) ∧ ∀ (x : List (Int × Int)), x ∈ l → (0 : Nat) < List.length x ∧ List.length x ≤ (1000000 : Nat)) ∧ ∃ (x : Int), (load = load ∧ (comGo l ((0 : Int), (1000 : Int))).snd = (comS l).snd ∧ (comGo l ((0 : Int), (1000 : Int))).fst = x ∧ l = l ∧ (0 : Int) = (0 : Int) ∧ (0 : Int) = (0 : Int)) ∧ ((comS l).fst ≤ x ∧ x ≤ (comS l).snd + (1 : Int) ∧ rCrossS l load = rCrossGo l load (comS l).snd x (Int.toNat ((comS l).snd + (1 : Int) - x))) ∧ ∀ (x : Int), (comS l).fst ≤ x ∧ x ≤ (comS l).snd + (1 : Int) ∧ rCrossS l load = rCrossGo l load (comS l).snd x (Int.toNat ((comS l).snd + (1 : Int) - x)) → (decide (x ≤ (comS l).snd) = true → (List.length l ≤ (3 : Nat) ∧ inAll l x) ∧ ((-9223372036854775808 : Int) ≤ load * (rSumS l x).snd ∧ load * (rSumS l x).snd ≤ (9223372036854775807 : Int)) ∧ (((rSumS l x).fst == load * (rSumS l x).snd) = true → (((-9200000000000000000 : Int) ≤ x ∧ x ≤ (9200000000000000000 : Int)) ∧ (0 : Int) < (1 : Int) ∧ (1 : Int) ≤ (9200000000000000000 : Int)) ∧ ((lowestS x (1 : Int)).fst, (lowestS x (1 : Int)).snd) = Option.getD (rCrossS l load) ((0 : Int), (0 : Int)) ∧ true = Option.isSome (rCrossS l load)) ∧ (((rSumS l x).fst == load * (rSumS l x).snd) = false → ((x == (comS l).snd) = true → ((0 : Int), (0 : Int)) = Option.getD (rCrossS l load) ((0 : Int), (0 : Int)) ∧ false = Option.isSome (rCrossS l load)) ∧ ((x == (comS l).snd) = false → ∃ (x0 : Int × Nat × Int × Int × Int), (load = load ∧ (comS l).snd = (comS l).snd ∧ x = x0.1 ∧ (0 : Int) = x0.2.2.1 ∧ (0 : Int) = x0.2.2.2.1 ∧ (1 : Int) = x0.2.2.2.2 ∧ (0 : Int) = (↑x0.2.1 : Int) ∧ l = l ∧ (0 : Int) = (0 : Int) ∧ (0 : Int) = (0 : Int)) ∧ ((x0.2.fst ≤ List.length l ∧ pcI x0.2.fst (x0.2.2.fst, x0.2.2.2.fst, x0.2.2.2.snd) ∧ rPcL l x0.fst = rPcGo x0.fst (List.drop x0.2.fst l) (x0.2.2.fst, x0.2.2.2.fst, x0.2.2.2.snd) ∧ (comS l).fst ≤ x0.fst ∧ x0.fst < (comS l).snd ∧ rCrossS l load = rCrossGo l load (comS l).snd x0.fst (Int.toNat ((comS l).snd + (1 : Int) - x0.fst)) ∧ ((rSumS l x0.fst).fst = load * (rSumS l x0.fst).snd → False)) ∧ x0.fst = x0.fst) ∧ ∀ (x_1 : Int × Nat × Int × Int × Int), (x_1.2.fst ≤ List.length l ∧ pcI x_1.2.fst (x_1.2.2.fst, x_1.2.2.2.fst, x_1.2.2.2.snd) ∧ rPcL l x_1.fst = rPcGo x_1.fst (List.drop x_1.2.fst l) (x_1.2.2.fst, x_1.2.2.2.fst, x_1.2.2.2.snd) ∧ (comS l).fst ≤ x_1.fst ∧ x_1.fst < (comS l).snd ∧ rCrossS l load = rCrossGo l load (comS l).snd x_1.fst (Int.toNat ((comS l).snd + (1 : Int) - x_1.fst)) ∧ ((rSumS l x_1.fst).fst = load * (rSumS l x_1.fst).snd → False)) ∧ x_1.fst = x0.fst → (decide ((↑x_1.2.1 : Int) < (↑(List.length l) : Int)) = true → (((0 : Int) ≤ (↑x_1.2.1 : Int) ∧ (↑x_1.2.1 : Int) < (↑(List.length l) : Int)) ∧ ((0 : Int) ≤ (↑x_1.2.1 : Int) ∧ (↑x_1.2.1 : Int) < (↑(List.length l) : Int)) ∧ lineS (List.getD l x_1.2.1 []) = (0 : Int) ∧ inS (List.getD l x_1.2.1 []) x_1.1 ∧ inS (List.getD l x_1.2.1 []) (x_1.1 + (1 : Int))) ∧ (((-9223372036854775808 : Int) ≤ x_1.2.2.1 * (rPcS (List.getD l x_1.2.1 []) x_1.1).snd.snd ∧ x_1.2.2.1 * (rPcS (List.getD l x_1.2.1 []) x_1.1).snd.snd ≤ (9223372036854775807 : Int)) ∧ ((-9223372036854775808 : Int) ≤ (rPcS (List.getD l x_1.2.1 []) x_1.1).fst * x_1.2.2.2.2 ∧ (rPcS (List.getD l x_1.2.1 []) x_1.1).fst * x_1.2.2.2.2 ≤ (9223372036854775807 : Int)) ∧ ((-9223372036854775808 : Int) ≤ x_1.2.2.1 * (rPcS (List.getD l x_1.2.1 []) x_1.1).snd.snd + (rPcS (List.getD l x_1.2.1 []) x_1.1).fst * x_1.2.2.2.2 ∧ x_1.2.2.1 * (rPcS (List.getD l x_1.2.1 []) x_1.1).snd.snd + (rPcS (List.getD l x_1.2.1 []) x_1.1).fst * x_1.2.2.2.2 ≤ (9223372036854775807 : Int)) ∧ ((-9223372036854775808 : Int) ≤ x_1.2.2.2.1 * (rPcS (List.getD l x_1.2.1 []) x_1.1).snd.snd ∧ x_1.2.2.2.1 * (rPcS (List.getD l x_1.2.1 []) x_1.1).snd.snd ≤ (9223372036854775807 : Int)) ∧ ((-9223372036854775808 : Int) ≤ (rPcS (List.getD l x_1.2.1 []) x_1.1).snd.fst * x_1.2.2.2.2 ∧ (rPcS (List.getD l x_1.2.1 []) x_1.1).snd.fst * x_1.2.2.2.2 ≤ (9223372036854775807 : Int)) ∧ ((-9223372036854775808 : Int) ≤ x_1.2.2.2.1 * (rPcS (List.getD l x_1.2.1 []) x_1.1).snd.snd + (rPcS (List.getD l x_1.2.1 []) x_1.1).snd.fst * x_1.2.2.2.2 ∧ x_1.2.2.2.1 * (rPcS (List.getD l x_1.2.1 []) x_1.1).snd.snd + (rPcS (List.getD l x_1.2.1 []) x_1.1).snd.fst * x_1.2.2.2.2 ≤ (9223372036854775807 : Int)) ∧ (-9223372036854775808 : Int) ≤ x_1.2.2.2.2 * (rPcS (List.getD l x_1.2.1 []) x_1.1).snd.snd ∧ x_1.2.2.2.2 * (rPcS (List.getD l x_1.2.1 []) x_1.1).snd.snd ≤ (9223372036854775807 : Int)) ∧ ((-9223372036854775808 : Int) ≤ (↑x_1.2.1 : Int) + (1 : Int) ∧ (↑x_1.2.1 : Int) + (1 : Int) ≤ (9223372036854775807 : Int)) ∧ ∃ (y : Int × Nat × Int × Int × Int), (load = load ∧ (comS l).snd = (comS l).snd ∧ x_1.1 = y.1 ∧ x_1.2.2.1 * (rPcS (List.getD l x_1.2.1 []) x_1.1).snd.snd + (rPcS (List.getD l x_1.2.1 []) x_1.1).fst * x_1.2.2.2.2 = y.2.2.1 ∧ x_1.2.2.2.1 * (rPcS (List.getD l x_1.2.1 []) x_1.1).snd.snd + (rPcS (List.getD l x_1.2.1 []) x_1.1).snd.fst * x_1.2.2.2.2 = y.2.2.2.1 ∧ x_1.2.2.2.2 * (rPcS (List.getD l x_1.2.1 []) x_1.1).snd.snd = y.2.2.2.2 ∧ (↑x_1.2.1 : Int) + (1 : Int) = (↑y.2.1 : Int) ∧ l = l ∧ (0 : Int) = (0 : Int) ∧ (0 : Int) = (0 : Int)) ∧ ((y.2.fst ≤ List.length l ∧ pcI y.2.fst (y.2.2.fst, y.2.2.2.fst, y.2.2.2.snd) ∧ rPcL l y.fst = rPcGo y.fst (List.drop y.2.fst l) (y.2.2.fst, y.2.2.2.fst, y.2.2.2.snd) ∧ (comS l).fst ≤ y.fst ∧ y.fst < (comS l).snd ∧ rCrossS l load = rCrossGo l load (comS l).snd y.fst (Int.toNat ((comS l).snd + (1 : Int) - y.fst)) ∧ ((rSumS l y.fst).fst = load * (rSumS l y.fst).snd → False)) ∧ y.fst = x0.fst) ∧ List.length l - y.2.fst < List.length l - x_1.2.fst) ∧ (decide ((↑x_1.2.1 : Int) < (↑(List.length l) : Int)) = false → (((-9223372036854775808 : Int) ≤ load * x_1.2.2.2.2 ∧ load * x_1.2.2.2.2 ≤ (9223372036854775807 : Int)) ∧ (decide (load * x_1.2.2.2.2 < x_1.2.2.1) = true → (-9223372036854775808 : Int) ≤ load * x_1.2.2.2.2 ∧ load * x_1.2.2.2.2 ≤ (9223372036854775807 : Int))) ∧ ((bif decide (load * x_1.2.2.2.2 < x_1.2.2.1) then decide (x_1.2.2.2.1 < load * x_1.2.2.2.2) else false) = true → (((-9223372036854775808 : Int) ≤ load * x_1.2.2.2.2 ∧ load * x_1.2.2.2.2 ≤ (9223372036854775807 : Int)) ∧ ((-9223372036854775808 : Int) ≤ x_1.2.2.1 - load * x_1.2.2.2.2 ∧ x_1.2.2.1 - load * x_1.2.2.2.2 ≤ (9223372036854775807 : Int)) ∧ ((-9223372036854775808 : Int) ≤ x_1.2.2.1 - x_1.2.2.2.1 ∧ x_1.2.2.1 - x_1.2.2.2.1 ≤ (9223372036854775807 : Int)) ∧ ((-9200000000000000000 : Int) ≤ x_1.2.2.1 - load * x_1.2.2.2.2 ∧ x_1.2.2.1 - load * x_1.2.2.2.2 ≤ (9200000000000000000 : Int)) ∧ (0 : Int) < x_1.2.2.1 - x_1.2.2.2.1 ∧ x_1.2.2.1 - x_1.2.2.2.1 ≤ (9200000000000000000 : Int)) ∧ (((-9223372036854775808 : Int) ≤ x_1.1 * (lowestS (x_1.2.2.1 - load * x_1.2.2.2.2) (x_1.2.2.1 - x_1.2.2.2.1)).snd ∧ x_1.1 * (lowestS (x_1.2.2.1 - load * x_1.2.2.2.2) (x_1.2.2.1 - x_1.2.2.2.1)).snd ≤ (9223372036854775807 : Int)) ∧ ((-9223372036854775808 : Int) ≤ x_1.1 * (lowestS (x_1.2.2.1 - load * x_1.2.2.2.2) (x_1.2.2.1 - x_1.2.2.2.1)).snd + (lowestS (x_1.2.2.1 - load * x_1.2.2.2.2) (x_1.2.2.1 - x_1.2.2.2.1)).fst ∧ x_1.1 * (lowestS (x_1.2.2.1 - load * x_1.2.2.2.2) (x_1.2.2.1 - x_1.2.2.2.1)).snd + (lowestS (x_1.2.2.1 - load * x_1.2.2.2.2) (x_1.2.2.1 - x_1.2.2.2.1)).fst ≤ (9223372036854775807 : Int)) ∧ ((-9200000000000000000 : Int) ≤ x_1.1 * (lowestS (x_1.2.2.1 - load * x_1.2.2.2.2) (x_1.2.2.1 - x_1.2.2.2.1)).snd + (lowestS (x_1.2.2.1 - load * x_1.2.2.2.2) (x_1.2.2.1 - x_1.2.2.2.1)).fst ∧ x_1.1 * (lowestS (x_1.2.2.1 - load * x_1.2.2.2.2) (x_1.2.2.1 - x_1.2.2.2.1)).snd + (lowestS (x_1.2.2.1 - load * x_1.2.2.2.2) (x_1.2.2.1 - x_1.2.2.2.1)).fst ≤ (9200000000000000000 : Int)) ∧ (0 : Int) < (lowestS (x_1.2.2.1 - load * x_1.2.2.2.2) (x_1.2.2.1 - x_1.2.2.2.1)).snd ∧ (lowestS (x_1.2.2.1 - load * x_1.2.2.2.2) (x_1.2.2.1 - x_1.2.2.2.1)).snd ≤ (9200000000000000000 : Int)) ∧ ((lowestS (x_1.1 * (lowestS (x_1.2.2.1 - load * x_1.2.2.2.2) (x_1.2.2.1 - x_1.2.2.2.1)).snd + (lowestS (x_1.2.2.1 - load * x_1.2.2.2.2) (x_1.2.2.1 - x_1.2.2.2.1)).fst) (lowestS (x_1.2.2.1 - load * x_1.2.2.2.2) (x_1.2.2.1 - x_1.2.2.2.1)).snd).fst, (lowestS (x_1.1 * (lowestS (x_1.2.2.1 - load * x_1.2.2.2.2) (x_1.2.2.1 - x_1.2.2.2.1)).snd + (lowestS (x_1.2.2.1 - load * x_1.2.2.2.2) (x_1.2.2.1 - x_1.2.2.2.1)).fst) (lowestS (x_1.2.2.1 - load * x_1.2.2.2.2) (x_1.2.2.1 - x_1.2.2.2.1)).snd).snd) = Option.getD (rCrossS l load) ((0 : Int), (0 : Int)) ∧ true = Option.isSome (rCrossS l load)) ∧ ((bif decide (load * x_1.2.2.2.2 < x_1.2.2.1) then decide (x_1.2.2.2.1 < load * x_1.2.2.2.2) else false) = false → ((-9223372036854775808 : Int) ≤ x_1.1 + (1 : Int) ∧ x_1.1 + (1 : Int) ≤ (9223372036854775807 : Int)) ∧ ∃ (y : Int), (load = load ∧ (comS l).snd = (comS l).snd ∧ x_1.1 + (1 : Int) = y ∧ l = l ∧ (0 : Int) = (0 : Int) ∧ (0 : Int) = (0 : Int)) ∧ ((comS l).fst ≤ y ∧ y ≤ (comS l).snd + (1 : Int) ∧ rCrossS l load = rCrossGo l load (comS l).snd y (Int.toNat ((comS l).snd + (1 : Int) - y))) ∧ Int.toNat ((comS l).snd + (1 : Int) - y) < Int.toNat ((comS l).snd + (1 : Int) - x)))))) ∧ (decide (x ≤ (comS l).snd) = false → ((0 : Int), (0 : Int)) = Option.getD (rCrossS l load) ((0 : Int), (0 : Int)) ∧ false = Option.isSome (rCrossS l load))) := by
  intros
  kernel_rfl
theorem wp35 (l : List (List (Int × Int))) (load : Int) : wpF Tryz.prog G136 (annRCross l load) Tryz.f35 cRCross (l, load, ()) := by
  refine (vc35 l load).mpr ?_
  intro h0 hL
  obtain ⟨l1, l3, l2, l4, l5, l6⟩ := lines_ok h0
  have hc : comGo l (0, 1000) = comS l := comGo_from l1 l2
  rw [hc]
  have hall : ∀ v, (comS l).1 ≤ v → v ≤ (comS l).2 → inAll l v := fun v h1 h2 => lines_in h0 ⟨h1, h2⟩
  have hlen : ∀ x ∈ l, 0 < x.length ∧ x.length ≤ 1000000 := fun x hx => by
    have := (line_ok (l2 x hx)).1
    have h1 := this.1
    have h2 := this.2.1
    omega
  refine ⟨⟨by omega, hlen⟩, (comS l).1, by simp, ⟨Int.le_refl _, by omega, rfl⟩, fun v hv => ⟨fun h => ?_, fun h => ?_⟩⟩
  · have hle : v ≤ (comS l).2 := by simpa using h
    obtain ⟨i1, i2, i3⟩ := hv
    have hA := hall v i1 hle
    obtain ⟨f, hf⟩ : ∃ f, ((comS l).2 + 1 - v).toNat = f + 1 := ⟨((comS l).2 - v).toNat, by omega⟩
    have hf' : ((comS l).2 + 1 - (v + 1)).toNat = f := by omega
    have hs := rSumS_I hA l3
    have m1 := mul_bd (a := load) (b := (rSumS l v).2) (A := 3000) (B := 1000000000) ⟨by omega, by omega⟩ ⟨by omega, by omega⟩
    refine ⟨⟨l3, hA⟩, by omega, fun h1 => ?_, fun h1 => ⟨fun h2 => ?_, fun h2 => ?_⟩⟩
    · have h1' := eq_of_beq h1
      rw [i3, hf]
      unfold rCrossGo
      rw [if_pos h1']
      exact ⟨⟨⟨by omega, by omega⟩, by decide, by decide⟩, rfl, rfl⟩
    · have h1' := ne_of_beq_false h1
      have h2' := eq_of_beq h2
      rw [i3, hf]
      unfold rCrossGo
      rw [if_neg h1', if_pos h2']
      exact ⟨rfl, rfl⟩
    · have h1' := ne_of_beq_false h1
      have h2' := ne_of_beq_false h2
      have hlt : v < (comS l).2 := by omega
      have hB := hall (v + 1) (by omega) (by omega)
      refine ⟨(v, 0, 0, 0, 1), by simp, ⟨⟨Nat.zero_le _, pcI_zero, rfl, i1, hlt, i3, h1'⟩, rfl⟩, ?_⟩
      rintro ⟨v', k, a, b, c⟩ ⟨⟨j1, j2, j3, _⟩, j4⟩
      dsimp only at j1 j2 j3 j4 ⊢
      have j4' := j4.symm
      subst j4'
      refine ⟨fun h3 => ?_, fun h3 => ?_⟩
      · have hk : k < l.length := by simpa using h3
        have hx := hA _ (getD_memL hk)
        have hx' := hB _ (getD_memL hk)
        have hst := pcI_step j2 hx.1 hx.2 hx'.2
        have bd := rPc_bd hx.1 hx.2 hx'.2
        have b0 := pcI_three j2 (by omega)
        have b1 := pcI_three hst (by omega)
        have hdr := rPcGo_drop (v := v) (s := (a, b, c)) hk
        dsimp only at hst b0 b1 hdr
        have m1 := mul_bd (a := a) (b := (rPcS (l.getD k []) v).2.2) (A := 3000000000000) (B := 1000) ⟨by omega, by omega⟩ ⟨by omega, by omega⟩
        have m2 := mul_bd (a := (rPcS (l.getD k []) v).1) (b := c) (A := 1000000) (B := 1000000000) ⟨by omega, by omega⟩ ⟨by omega, by omega⟩
        have m3 := mul_bd (a := b) (b := (rPcS (l.getD k []) v).2.2) (A := 3000000000000) (B := 1000) ⟨by omega, by omega⟩ ⟨by omega, by omega⟩
        have m4 := mul_bd (a := (rPcS (l.getD k []) v).2.1) (b := c) (A := 1000000) (B := 1000000000) ⟨by omega, by omega⟩ ⟨by omega, by omega⟩
        refine ⟨⟨by omega, by omega, hx.1, hx.2, hx'.2⟩, ⟨by omega, by omega, by omega, by omega, by omega, by omega, by omega⟩, by omega, (v, k + 1, _, _, _), ⟨rfl, rfl, rfl, rfl, rfl, rfl, by simp, rfl, rfl, rfl⟩, ⟨⟨hk, hst, ?_, i1, hlt, i3, h1'⟩, rfl⟩, by dsimp only; omega⟩
        rw [j3, hdr]
      · have hk : ¬ k < l.length := by simpa using h3
        have e : k = l.length := by omega
        subst e
        rw [List.drop_length] at j3
        have hR : rPcL l v = (a, b, c) := j3
        have b0 := pcI_three j2 l3
        dsimp only at b0
        have hcr := rCrossGo_step (l := l) (load := load) (v := v) (f := f) h1' h2'
        rw [hR] at hcr
        dsimp only at hcr
        rw [← hf, ← i3] at hcr
        have m2 := mul_bd (a := load) (b := c) (A := 3000) (B := 1000000000) ⟨by omega, by omega⟩ ⟨by omega, by omega⟩
        refine ⟨⟨by omega, fun _ => by omega⟩, fun h4 => ?_, fun h4 => ?_⟩
        · have h5 : load * c < a ∧ b < load * c := by
            cases h6 : decide (load * c < a) with
            | true => rw [h6] at h4; exact ⟨of_decide_eq_true h6, of_decide_eq_true h4⟩
            | false => rw [h6] at h4; cases h4
          rw [if_pos h5] at hcr
          rw [hcr]
          obtain ⟨v1, v2, v3⟩ := lowest_val (n := a - load * c) (d := a - b) (by omega)
          have v4 : -6000000000 ≤ (lowestS (a - load * c) (a - b)).1 ∧ (lowestS (a - load * c) (a - b)).1 ≤ 6000000000 := by
            have p1 : 0 ≤ (lowestS (a - load * c) (a - b)).1 := by
              rcases Int.lt_or_le (lowestS (a - load * c) (a - b)).1 0 with hlt | hge
              · have := Int.mul_neg_of_neg_of_pos hlt (show 0 < a - b by omega)
                have := Int.mul_pos (show 0 < a - load * c by omega) v1
                omega
              · exact hge
            have p2 : (lowestS (a - load * c) (a - b)).1 ≤ (lowestS (a - load * c) (a - b)).2 := by
              have e : ((lowestS (a - load * c) (a - b)).2 - (lowestS (a - load * c) (a - b)).1) * (a - b) = (load * c - b) * (lowestS (a - load * c) (a - b)).2 := by grind
              have := (pos_iff (show 0 < a - b by omega) v1 e).2 (by omega)
              omega
            omega
          generalize lowestS (a - load * c) (a - b) = p at *
          have m3 := mul_bd (a := v) (b := p.2) (A := 1000) (B := 6000000000) ⟨by omega, by omega⟩ ⟨by omega, by omega⟩
          exact ⟨⟨by omega, by omega, by omega, ⟨by omega, by omega⟩, by omega, by omega⟩, ⟨by omega, by omega, ⟨by omega, by omega⟩, v1, by omega⟩, rfl, rfl⟩
        · have h5 : ¬ (load * c < a ∧ b < load * c) := by
            rintro ⟨h6, h7⟩
            rw [decide_eq_true h6, decide_eq_true h7] at h4
            cases h4
          rw [if_neg h5] at hcr
          exact ⟨by omega, v + 1, by simp, ⟨by omega, by omega, by rw [hcr, hf']⟩, by omega⟩
  · have hle : ¬ v ≤ (comS l).2 := by simpa using h
    obtain ⟨i1, i2, i3⟩ := hv
    have : ((comS l).2 + 1 - v).toNat = 0 := by omega
    rw [i3, this]
    exact ⟨rfl, rfl⟩
theorem ok35 : Ok Tryz.prog 35 cRCross := ok_of_wp mixed g136 (by kernel_rfl) (by kernel_rfl) (fun xx => annRCross xx.1 xx.2.1) fun xx => wp35 xx.1 xx.2.1
abbrev G137 : Gam := (35, cRCross) :: G136
theorem g137 : GamOk Tryz.prog G137 := .cons ok35 g136
def shOk (x : List (Int × Int)) (c : Int × Int) : Prop := (0 < c.2 ∧ c.2 ≤ 6000000000) ∧ (x.getD 0 (0, 0)).1 * c.2 ≤ c.1 ∧ c.1 ≤ (x.getD (x.length - 1) (0, 0)).1 * c.2
def cRShares : Con := { args := [aLL 22 132, aP], ress := [(false, .list 25 sPt)], owns := [true], pre := fun (l, c, _) => [l.length ≤ 3, ∀ x ∈ l, lineS x = 0 ∧ shOk x c], spec := fun (l, c, _) => (l.map fun x => rShareS x c, ()) }
abbrev annRShares (l : List (List (Int × Int))) (c : Int × Int) : Nat → Option Ann := fun id =>
  if id = 0 then some { X := Nat, σ := fun k => ⟨3, [(0, .one (.sl 0)), (3, .one (.ptr 1 0)), (5, .one (.sl 2)), (6, .one (.int .i64 k))], [(0, .imm 22 (.list 132 sPt) l), (1, .box 25 [.int .i64 c.1, .int .i64 c.2]), (2, .own 25 sPt ((l.take k).map fun x => rShareS x c))]⟩, inv := fun k => k ≤ l.length, mu := fun k => l.length - k }
  else if id = 2 then some { X := Nat × Nat, σ := fun (k, j) => ⟨3, [(0, .one (.sl 0)), (3, .one (.ptr 1 0)), (5, .one (.sl 2)), (6, .one (.int .i64 k)), (7, .one (.int .i64 j))], [(0, .imm 22 (.list 132 sPt) l), (1, .box 25 [.int .i64 c.1, .int .i64 c.2]), (2, .own 25 sPt ((l.take k).map fun x => rShareS x c))]⟩, inv := fun (k, j) => k < l.length ∧ 1 ≤ j ∧ j < (l.getD k []).length ∧ rShIdx (l.getD k []) c 1 (l.getD k []).length = rShIdx (l.getD k []) c j ((l.getD k []).length + 1 - j) ∧ ((l.getD k []).getD (j - 1) (0, 0)).1 * c.2 ≤ c.1, mu := fun (k, j) => (l.getD k []).length - j, rel := some fun x y => y.1 = x.1 }
  else none
theorem vc36 : ∀ (l : List (List (Int × Int))) (c : Int × Int), wpF Tryz.prog G137 (annRShares l c) Tryz.f36 cRShares (l, c, ()) = (List.length l ≤ (3 : Nat) → (∀ (x : List (Int × Int)), x ∈ l → lineS x = (0 : Int) ∧ shOk x c) → ∃ (x : Nat), ((0 : Int) = (↑x : Int) ∧ l = l ∧ c.fst = c.fst ∧ c.snd = c.snd ∧ List.length (List.map (fun (x : List (Int × Int)) => rShareS x c) (List.take x l)) = (0 : Nat)) ∧ x ≤ List.length l ∧ ∀ (x : Nat), x ≤ List.length l → (decide ((↑x : Int) < (↑(List.length l) : Int)) = true → ∃ (x0 : Nat × Nat), ((↑x : Int) = (↑x0.1 : Int) ∧ (1 : Int) = (↑x0.2 : Int) ∧ l = l ∧ c.fst = c.fst ∧ c.snd = c.snd ∧ List.map (fun (x : List (Int × Int)) => rShareS x c) (List.take x l) = List.map (fun (x : List (Int × Int)) => rShareS x c) (List.take x0.1 l)) ∧ ((x0.fst < List.length l ∧ (1 : Nat) ≤ x0.snd ∧ x0.snd < List.length (List.getD l x0.fst []) ∧ rShIdx (List.getD l x0.fst []) c (1 : Nat) (List.length (List.getD l x0.fst [])) = rShIdx (List.getD l x0.fst []) c x0.snd (List.length (List.getD l x0.fst []) + (1 : Nat) - x0.snd) ∧ (List.getD (List.getD l x0.fst []) (x0.snd - (1 : Nat)) ((0 : Int), (0 : Int))).fst * c.snd ≤ c.fst) ∧ x0.fst = x0.fst) ∧ ∀ (x_1 : Nat × Nat), (x_1.fst < List.length l ∧ (1 : Nat) ≤ x_1.snd ∧ x_1.snd < List.length (List.getD l x_1.fst []) ∧ rShIdx (List.getD l x_1.fst []) c (1 : Nat) (List.length (List.getD l x_1.fst [])) = rShIdx (List.getD l x_1.fst []) c x_1.snd (List.length (List.getD l x_1.fst []) + (1 : Nat) - x_1.snd) ∧ (List.getD (List.getD l x_1.fst []) (x_1.snd - (1 : Nat)) ((0 : Int), (0 : Int))).fst * c.snd ≤ c.fst) ∧ x_1.fst = x0.fst → (((0 : Int) ≤ (↑x_1.1 : Int) ∧ (↑x_1.1 : Int) < (↑(List.length l) : Int)) ∧ ((0 : Int) ≤ (↑x_1.1 : Int) ∧ (↑x_1.1 : Int) < (↑(List.length l) : Int)) ∧ ((0 : Int) ≤ (↑x_1.2 : Int) ∧ (↑x_1.2 : Int) < (↑(List.length (List.getD l x_1.1 [])) : Int)) ∧ ((0 : Int) ≤ (↑x_1.2 : Int) ∧ (↑x_1.2 : Int) < (↑(List.length (List.getD l x_1.1 [])) : Int)) ∧ (-9223372036854775808 : Int) ≤ (List.getD (List.getD l x_1.1 []) x_1.2 ((0 : Int), (0 : Int))).fst * c.snd ∧ (List.getD (List.getD l x_1.1 []) x_1.2 ((0 : Int), (0 : Int))).fst * c.snd ≤ (9223372036854775807 : Int)) ∧ (decide ((List.getD (List.getD l x_1.1 []) x_1.2 ((0 : Int), (0 : Int))).fst * c.snd < c.fst) = true → ((-9223372036854775808 : Int) ≤ (↑x_1.2 : Int) + (1 : Int) ∧ (↑x_1.2 : Int) + (1 : Int) ≤ (9223372036854775807 : Int)) ∧ ∃ (y : Nat × Nat), ((↑x_1.1 : Int) = (↑y.1 : Int) ∧ (↑x_1.2 : Int) + (1 : Int) = (↑y.2 : Int) ∧ l = l ∧ c.fst = c.fst ∧ c.snd = c.snd ∧ List.map (fun (x : List (Int × Int)) => rShareS x c) (List.take x_1.1 l) = List.map (fun (x : List (Int × Int)) => rShareS x c) (List.take y.1 l)) ∧ ((y.fst < List.length l ∧ (1 : Nat) ≤ y.snd ∧ y.snd < List.length (List.getD l y.fst []) ∧ rShIdx (List.getD l y.fst []) c (1 : Nat) (List.length (List.getD l y.fst [])) = rShIdx (List.getD l y.fst []) c y.snd (List.length (List.getD l y.fst []) + (1 : Nat) - y.snd) ∧ (List.getD (List.getD l y.fst []) (y.snd - (1 : Nat)) ((0 : Int), (0 : Int))).fst * c.snd ≤ c.fst) ∧ y.fst = x0.fst) ∧ List.length (List.getD l y.fst []) - y.snd < List.length (List.getD l x_1.fst []) - x_1.snd) ∧ (decide ((List.getD (List.getD l x_1.1 []) x_1.2 ((0 : Int), (0 : Int))).fst * c.snd < c.fst) = false → (((0 : Int) ≤ (↑x_1.1 : Int) ∧ (↑x_1.1 : Int) < (↑(List.length l) : Int)) ∧ ((0 : Int) ≤ (↑x_1.1 : Int) ∧ (↑x_1.1 : Int) < (↑(List.length l) : Int)) ∧ ((-9223372036854775808 : Int) ≤ (↑x_1.2 : Int) - (1 : Int) ∧ (↑x_1.2 : Int) - (1 : Int) ≤ (9223372036854775807 : Int)) ∧ ((0 : Int) ≤ (↑x_1.2 : Int) - (1 : Int) ∧ (↑x_1.2 : Int) - (1 : Int) < (↑(List.length (List.getD l x_1.1 [])) : Int)) ∧ ((0 : Int) ≤ (↑x_1.2 : Int) - (1 : Int) ∧ (↑x_1.2 : Int) - (1 : Int) < (↑(List.length (List.getD l x_1.1 [])) : Int)) ∧ ((0 : Int) ≤ (↑x_1.1 : Int) ∧ (↑x_1.1 : Int) < (↑(List.length l) : Int)) ∧ ((0 : Int) ≤ (↑x_1.1 : Int) ∧ (↑x_1.1 : Int) < (↑(List.length l) : Int)) ∧ ((0 : Int) ≤ (↑x_1.2 : Int) ∧ (↑x_1.2 : Int) < (↑(List.length (List.getD l x_1.1 [])) : Int)) ∧ (0 : Int) ≤ (↑x_1.2 : Int) ∧ (↑x_1.2 : Int) < (↑(List.length (List.getD l x_1.1 [])) : Int)) ∧ ((-9223372036854775808 : Int) ≤ (List.getD (List.getD l x_1.1 []) x_1.2 ((0 : Int), (0 : Int))).fst - (List.getD (List.getD l x_1.1 []) (Int.toNat ((↑x_1.2 : Int) - (1 : Int))) ((0 : Int), (0 : Int))).fst ∧ (List.getD (List.getD l x_1.1 []) x_1.2 ((0 : Int), (0 : Int))).fst - (List.getD (List.getD l x_1.1 []) (Int.toNat ((↑x_1.2 : Int) - (1 : Int))) ((0 : Int), (0 : Int))).fst ≤ (9223372036854775807 : Int)) ∧ (((-9223372036854775808 : Int) ≤ (List.getD (List.getD l x_1.1 []) (Int.toNat ((↑x_1.2 : Int) - (1 : Int))) ((0 : Int), (0 : Int))).snd * ((List.getD (List.getD l x_1.1 []) x_1.2 ((0 : Int), (0 : Int))).fst - (List.getD (List.getD l x_1.1 []) (Int.toNat ((↑x_1.2 : Int) - (1 : Int))) ((0 : Int), (0 : Int))).fst) ∧ (List.getD (List.getD l x_1.1 []) (Int.toNat ((↑x_1.2 : Int) - (1 : Int))) ((0 : Int), (0 : Int))).snd * ((List.getD (List.getD l x_1.1 []) x_1.2 ((0 : Int), (0 : Int))).fst - (List.getD (List.getD l x_1.1 []) (Int.toNat ((↑x_1.2 : Int) - (1 : Int))) ((0 : Int), (0 : Int))).fst) ≤ (9223372036854775807 : Int)) ∧ ((-9223372036854775808 : Int) ≤ (List.getD (List.getD l x_1.1 []) (Int.toNat ((↑x_1.2 : Int) - (1 : Int))) ((0 : Int), (0 : Int))).snd * ((List.getD (List.getD l x_1.1 []) x_1.2 ((0 : Int), (0 : Int))).fst - (List.getD (List.getD l x_1.1 []) (Int.toNat ((↑x_1.2 : Int) - (1 : Int))) ((0 : Int), (0 : Int))).fst) * c.snd ∧ (List.getD (List.getD l x_1.1 []) (Int.toNat ((↑x_1.2 : Int) - (1 : Int))) ((0 : Int), (0 : Int))).snd * ((List.getD (List.getD l x_1.1 []) x_1.2 ((0 : Int), (0 : Int))).fst - (List.getD (List.getD l x_1.1 []) (Int.toNat ((↑x_1.2 : Int) - (1 : Int))) ((0 : Int), (0 : Int))).fst) * c.snd ≤ (9223372036854775807 : Int)) ∧ ((-9223372036854775808 : Int) ≤ (List.getD (List.getD l x_1.1 []) x_1.2 ((0 : Int), (0 : Int))).snd - (List.getD (List.getD l x_1.1 []) (Int.toNat ((↑x_1.2 : Int) - (1 : Int))) ((0 : Int), (0 : Int))).snd ∧ (List.getD (List.getD l x_1.1 []) x_1.2 ((0 : Int), (0 : Int))).snd - (List.getD (List.getD l x_1.1 []) (Int.toNat ((↑x_1.2 : Int) - (1 : Int))) ((0 : Int), (0 : Int))).snd ≤ (9223372036854775807 : Int)) ∧ ((-9223372036854775808 : Int) ≤ (List.getD (List.getD l x_1.1 []) (Int.toNat ((↑x_1.2 : Int) - (1 : Int))) ((0 : Int), (0 : Int))).fst * c.snd ∧ (List.getD (List.getD l x_1.1 []) (Int.toNat ((↑x_1.2 : Int) - (1 : Int))) ((0 : Int), (0 : Int))).fst * c.snd ≤ (9223372036854775807 : Int)) ∧ ((-9223372036854775808 : Int) ≤ c.fst - (List.getD (List.getD l x_1.1 []) (Int.toNat ((↑x_1.2 : Int) - (1 : Int))) ((0 : Int), (0 : Int))).fst * c.snd ∧ c.fst - (List.getD (List.getD l x_1.1 []) (Int.toNat ((↑x_1.2 : Int) - (1 : Int))) ((0 : Int), (0 : Int))).fst * c.snd ≤ (9223372036854775807 : Int)) ∧ ((-9223372036854775808 : Int) ≤ ((List.getD (List.getD l x_1.1 []) x_1.2 ((0 : Int), (0 : Int))).snd - (List.getD (List.getD l x_1.1 []) (Int.toNat ((↑x_1.2 : Int) - (1 : Int))) ((0 : Int), (0 : Int))).snd) * (c.fst - (List.getD (List.getD l x_1.1 []) (Int.toNat ((↑x_1.2 : Int) - (1 : Int))) ((0 : Int), (0 : Int))).fst * c.snd) ∧ ((List.getD (List.getD l x_1.1 []) x_1.2 ((0 : Int), (0 : Int))).snd - (List.getD (List.getD l x_1.1 []) (Int.toNat ((↑x_1.2 : Int) - (1 : Int))) ((0 : Int), (0 : Int))).snd) * (c.fst - (List.getD (List.getD l x_1.1 []) (Int.toNat ((↑x_1.2 : Int) - (1 : Int))) ((0 : Int), (0 : Int))).fst * c.snd) ≤ (9223372036854775807 : Int)) ∧ ((-9223372036854775808 : Int) ≤ (List.getD (List.getD l x_1.1 []) (Int.toNat ((↑x_1.2 : Int) - (1 : Int))) ((0 : Int), (0 : Int))).snd * ((List.getD (List.getD l x_1.1 []) x_1.2 ((0 : Int), (0 : Int))).fst - (List.getD (List.getD l x_1.1 []) (Int.toNat ((↑x_1.2 : Int) - (1 : Int))) ((0 : Int), (0 : Int))).fst) * c.snd + ((List.getD (List.getD l x_1.1 []) x_1.2 ((0 : Int), (0 : Int))).snd - (List.getD (List.getD l x_1.1 []) (Int.toNat ((↑x_1.2 : Int) - (1 : Int))) ((0 : Int), (0 : Int))).snd) * (c.fst - (List.getD (List.getD l x_1.1 []) (Int.toNat ((↑x_1.2 : Int) - (1 : Int))) ((0 : Int), (0 : Int))).fst * c.snd) ∧ (List.getD (List.getD l x_1.1 []) (Int.toNat ((↑x_1.2 : Int) - (1 : Int))) ((0 : Int), (0 : Int))).snd * ((List.getD (List.getD l x_1.1 []) x_1.2 ((0 : Int), (0 : Int))).fst - (List.getD (List.getD l x_1.1 []) (Int.toNat ((↑x_1.2 : Int) - (1 : Int))) ((0 : Int), (0 : Int))).fst) * c.snd + ((List.getD (List.getD l x_1.1 []) x_1.2 ((0 : Int), (0 : Int))).snd - (List.getD (List.getD l x_1.1 []) (Int.toNat ((↑x_1.2 : Int) - (1 : Int))) ((0 : Int), (0 : Int))).snd) * (c.fst - (List.getD (List.getD l x_1.1 []) (Int.toNat ((↑x_1.2 : Int) - (1 : Int))) ((0 : Int), (0 : Int))).fst * c.snd) ≤ (9223372036854775807 : Int)) ∧ ((-9223372036854775808 : Int) ≤ ((List.getD (List.getD l x_1.1 []) x_1.2 ((0 : Int), (0 : Int))).fst - (List.getD (List.getD l x_1.1 []) (Int.toNat ((↑x_1.2 : Int) - (1 : Int))) ((0 : Int), (0 : Int))).fst) * c.snd ∧ ((List.getD (List.getD l x_1.1 []) x_1.2 ((0 : Int), (0 : Int))).fst - (List.getD (List.getD l x_1.1 []) (Int.toNat ((↑x_1.2 : Int) - (1 : Int))) ((0 : Int), (0 : Int))).fst) * c.snd ≤ (9223372036854775807 : Int)) ∧ ((-9200000000000000000 : Int) ≤ (List.getD (List.getD l x_1.1 []) (Int.toNat ((↑x_1.2 : Int) - (1 : Int))) ((0 : Int), (0 : Int))).snd * ((List.getD (List.getD l x_1.1 []) x_1.2 ((0 : Int), (0 : Int))).fst - (List.getD (List.getD l x_1.1 []) (Int.toNat ((↑x_1.2 : Int) - (1 : Int))) ((0 : Int), (0 : Int))).fst) * c.snd + ((List.getD (List.getD l x_1.1 []) x_1.2 ((0 : Int), (0 : Int))).snd - (List.getD (List.getD l x_1.1 []) (Int.toNat ((↑x_1.2 : Int) - (1 : Int))) ((0 : Int), (0 : Int))).snd) * (c.fst - (List.getD (List.getD l x_1.1 []) (Int.toNat ((↑x_1.2 : Int) - (1 : Int))) ((0 : Int), (0 : Int))).fst * c.snd) ∧ (List.getD (List.getD l x_1.1 []) (Int.toNat ((↑x_1.2 : Int) - (1 : Int))) ((0 : Int), (0 : Int))).snd * ((List.getD (List.getD l x_1.1 []) x_1.2 ((0 : Int), (0 : Int))).fst - (List.getD (List.getD l x_1.1 []) (Int.toNat ((↑x_1.2 : Int) - (1 : Int))) ((0 : Int), (0 : Int))).fst) * c.snd + ((List.getD (List.getD l x_1.1 []) x_1.2 ((0 : Int), (0 : Int))).snd - (List.getD (List.getD l x_1.1 []) (Int.toNat ((↑x_1.2 : Int) - (1 : Int))) ((0 : Int), (0 : Int))).snd) * (c.fst - (List.getD (List.getD l x_1.1 []) (Int.toNat ((↑x_1.2 : Int) - (1 : Int))) ((0 : Int), (0 : Int))).fst * c.snd) ≤ (9200000000000000000 : Int)) ∧ ((0 : Int) < ((List.getD (List.getD l x_1.1 []) x_1.2 ((0 : Int), (0 : Int))).fst - (List.getD (List.getD l x_1.1 []) (Int.toNat ((↑x_1.2 : Int) - (1 : Int))) ((0 : Int), (0 : Int))).fst) * c.snd ∧ ((List.getD (List.getD l x_1.1 []) x_1.2 ((0 : Int), (0 : Int))).fst - (List.getD (List.getD l x_1.1 []) (Int.toNat ((↑x_1.2 : Int) - (1 : Int))) ((0 : Int), (0 : Int))).fst) * c.snd ≤ (9200000000000000000 : Int)) ∧ (List.length (List.map (fun (x : List (Int × Int)) => rShareS x c) (List.take x_1.1 l)) + (1 : Nat)) * (16 : Nat) ≤ (140737488355328 : Nat)) ∧ ((-9223372036854775808 : Int) ≤ (↑x_1.1 : Int) + (1 : Int) ∧ (↑x_1.1 : Int) + (1 : Int) ≤ (9223372036854775807 : Int)) ∧ ∃ (y : Nat), ((↑x_1.1 : Int) + (1 : Int) = (↑y : Int) ∧ l = l ∧ c.fst = c.fst ∧ c.snd = c.snd ∧ List.map (fun (x : List (Int × Int)) => rShareS x c) (List.take x_1.1 l) ++ [((lowestS ((List.getD (List.getD l x_1.1 []) (Int.toNat ((↑x_1.2 : Int) - (1 : Int))) ((0 : Int), (0 : Int))).snd * ((List.getD (List.getD l x_1.1 []) x_1.2 ((0 : Int), (0 : Int))).fst - (List.getD (List.getD l x_1.1 []) (Int.toNat ((↑x_1.2 : Int) - (1 : Int))) ((0 : Int), (0 : Int))).fst) * c.snd + ((List.getD (List.getD l x_1.1 []) x_1.2 ((0 : Int), (0 : Int))).snd - (List.getD (List.getD l x_1.1 []) (Int.toNat ((↑x_1.2 : Int) - (1 : Int))) ((0 : Int), (0 : Int))).snd) * (c.fst - (List.getD (List.getD l x_1.1 []) (Int.toNat ((↑x_1.2 : Int) - (1 : Int))) ((0 : Int), (0 : Int))).fst * c.snd)) (((List.getD (List.getD l x_1.1 []) x_1.2 ((0 : Int), (0 : Int))).fst - (List.getD (List.getD l x_1.1 []) (Int.toNat ((↑x_1.2 : Int) - (1 : Int))) ((0 : Int), (0 : Int))).fst) * c.snd)).fst, (lowestS ((List.getD (List.getD l x_1.1 []) (Int.toNat ((↑x_1.2 : Int) - (1 : Int))) ((0 : Int), (0 : Int))).snd * ((List.getD (List.getD l x_1.1 []) x_1.2 ((0 : Int), (0 : Int))).fst - (List.getD (List.getD l x_1.1 []) (Int.toNat ((↑x_1.2 : Int) - (1 : Int))) ((0 : Int), (0 : Int))).fst) * c.snd + ((List.getD (List.getD l x_1.1 []) x_1.2 ((0 : Int), (0 : Int))).snd - (List.getD (List.getD l x_1.1 []) (Int.toNat ((↑x_1.2 : Int) - (1 : Int))) ((0 : Int), (0 : Int))).snd) * (c.fst - (List.getD (List.getD l x_1.1 []) (Int.toNat ((↑x_1.2 : Int) - (1 : Int))) ((0 : Int), (0 : Int))).fst * c.snd)) (((List.getD (List.getD l x_1.1 []) x_1.2 ((0 : Int), (0 : Int))).fst - (List.getD (List.getD l x_1.1 []) (Int.toNat ((↑x_1.2 : Int) - (1 : Int))) ((0 : Int), (0 : Int))).fst) * c.snd)).snd)] = List.map (fun (x : List (Int × Int)) => rShareS x c) (List.take y l)) ∧ y ≤ List.length l ∧ List.length l - y < List.length l - x)) ∧ (decide ((↑x : Int) < (↑(List.length l) : Int)) = false → List.map (fun (x : List (Int × Int)) => rShareS x c) (List.take x l) = List.map (fun (x : List (Int × Int)) => rShareS x c) l)) := by
  intros
  kernel_rfl
theorem wp36 (l : List (List (Int × Int))) (c : Int × Int) : wpF Tryz.prog G137 (annRShares l c) Tryz.f36 cRShares (l, c, ()) := by
  refine (vc36 l c).mpr ?_
  intro h3 hall
  refine ⟨(0 : Nat), by simp, Nat.zero_le _, fun (k : Nat) hk => ⟨fun h => ?_, fun h => ?_⟩⟩
  · have hlt : k < l.length := by simpa using h
    obtain ⟨hx, hc⟩ := hall _ (getD_memL hlt)
    obtain ⟨⟨c1, c2⟩, c3, c4⟩ := hc
    obtain ⟨ho, hg⟩ := line_ok hx
    have hl := ho.1
    have hl8 := ho.2.1
    refine ⟨(k, (1 : Nat)), by simp, ⟨⟨hlt, Nat.le_refl _, by show 1 < (l.getD k []).length; omega, by simp, c3⟩, rfl⟩, ?_⟩
    rintro ⟨k', j⟩ ⟨⟨i1, i2, i3, i4, i5⟩, i6⟩
    dsimp only at i1 i2 i3 i4 i5 i6 ⊢
    have i6' := i6.symm
    subst i6'
    have a0 := (line_at hg (k := j - 1) (by omega)).1
    have b0 := line_at hg (k := j) i3
    have b1 := (b0.2 (by omega)).1
    have b0 := b0.1
    have ek : ((j : Int) - 1).toNat = j - 1 := by omega
    rw [ek]
    have m0 := mul_bd (a := ((l.getD k []).getD j (0, 0)).1) (b := c.2) (A := 1000) (B := 6000000000) ⟨by omega, by omega⟩ ⟨by omega, by omega⟩
    refine ⟨⟨by omega, by omega, by omega, by omega, by omega⟩, fun h => ?_, fun h => ?_⟩
    · have hh := of_decide_eq_true h
      have hne : j + 1 < (l.getD k []).length := by
        rcases Nat.lt_or_ge (j + 1) (l.getD k []).length with h1 | h1
        · exact h1
        · have : j = (l.getD k []).length - 1 := by omega
          rw [this] at hh; omega
      refine ⟨by omega, (k, j + 1), by simp, ⟨⟨i1, by dsimp only; omega, hne, ?_, ?_⟩, rfl⟩, by dsimp only; omega⟩
      · rw [i4, show (l.getD k []).length + 1 - j = ((l.getD k []).length + 1 - (j + 1)) + 1 by omega, rShIdx, if_pos hh]
      · show ((l.getD k []).getD (j + 1 - 1) (0, 0)).1 * c.2 ≤ c.1
        rw [Nat.add_sub_cancel]; omega
    · have hh := of_decide_eq_false h
      have hp : rShIdx (l.getD k []) c 1 (l.getD k []).length = j := by
        rw [i4, show (l.getD k []).length + 1 - j = ((l.getD k []).length + 1 - (j + 1)) + 1 by omega, rShIdx, if_neg hh]
      have hS : rShareS (l.getD k []) c = lowestS (((l.getD k []).getD (j - 1) (0, 0)).2 * (((l.getD k []).getD j (0, 0)).1 - ((l.getD k []).getD (j - 1) (0, 0)).1) * c.2 + (((l.getD k []).getD j (0, 0)).2 - ((l.getD k []).getD (j - 1) (0, 0)).2) * (c.1 - ((l.getD k []).getD (j - 1) (0, 0)).1 * c.2)) ((((l.getD k []).getD j (0, 0)).1 - ((l.getD k []).getD (j - 1) (0, 0)).1) * c.2) := by
        simp only [rShareS, hp]
      have hT : (l.take k).map (fun x => rShareS x c) ++ [rShareS (l.getD k []) c] = (l.take (k + 1)).map (fun x => rShareS x c) := by
        rw [← take_snoc (d := []) i1, List.map_append]; rfl
      rw [hS] at hT
      have hlen : ((l.take k).map fun x => rShareS x c).length ≤ 3 := by simp; omega
      have bj : (0, 0) = ((0 : Int), (0 : Int)) := rfl
      generalize (l.getD k []).getD (j - 1) (0, 0) = a at *
      generalize (l.getD k []).getD j (0, 0) = b at *
      have q1 : (0 : Int) ≤ c.1 - a.1 * c.2 ∧ c.1 - a.1 * c.2 ≤ 6000000000000 := by
        have : (b.1 - a.1) * c.2 = b.1 * c.2 - a.1 * c.2 := Int.sub_mul _ _ _
        have := mul_bd (a := b.1 - a.1) (b := c.2) (A := 1000) (B := 6000000000) ⟨by omega, by omega⟩ ⟨by omega, by omega⟩
        omega
      have m1 := mul_bd (a := a.2) (b := b.1 - a.1) (A := 1000) (B := 1000) ⟨by omega, by omega⟩ ⟨by omega, by omega⟩
      have m2 := mul_bd (a := a.2 * (b.1 - a.1)) (b := c.2) (A := 1000000) (B := 6000000000) ⟨by omega, by omega⟩ ⟨by omega, by omega⟩
      have m3 := mul_bd (a := a.1) (b := c.2) (A := 1000) (B := 6000000000) ⟨by omega, by omega⟩ ⟨by omega, by omega⟩
      have m4 := mul_bd (a := b.2 - a.2) (b := c.1 - a.1 * c.2) (A := 2000) (B := 6000000000000) ⟨by omega, by omega⟩ ⟨by omega, by omega⟩
      have m5 := mul_bd (a := b.1 - a.1) (b := c.2) (A := 1000) (B := 6000000000) ⟨by omega, by omega⟩ ⟨by omega, by omega⟩
      have m6 := Int.mul_pos (show 0 < b.1 - a.1 by omega) c1
      refine ⟨⟨by omega, by omega, by omega, by omega, by omega, by omega, by omega, by omega, by omega⟩, by omega, ⟨by omega, by omega, by omega, by omega, by omega, by omega, by omega, by omega, ⟨by omega, by omega⟩, ⟨m6, by omega⟩, by omega⟩, by omega, (k + 1 : Nat), ⟨by simp, rfl, rfl, rfl, hT⟩, by omega, by omega⟩
  · have hlt : ¬ k < l.length := by simpa using h
    rw [List.take_of_length_le (by omega)]
theorem ok36 : Ok Tryz.prog 36 cRShares := ok_of_wp mixed g137 (by kernel_rfl) (by kernel_rfl) (fun xx => annRShares xx.1 xx.2.1) fun xx => wp36 xx.1 xx.2.1
abbrev G138 : Gam := (36, cRShares) :: G137
theorem g138 : GamOk Tryz.prog G138 := .cons ok36 g137
def fitsS (x : Int × Int) : Bool := decide (1 ≤ x.2 ∧ x.2 ≤ 4294967296 ∧ -35184372088832 ≤ x.1 ∧ x.1 ≤ 35184372088832)
def cFits : Con := { args := [aP], ress := [Bo], owns := [], pre := fun _ => [], spec := fun (x, _) => (fitsS x, ()) }
theorem vc77 : ∀ (x : Int × Int), wpF Tryz.prog G138 (na ()) Tryz.f77 cFits (x, ()) = ((bif bif bif decide ((1 : Int) ≤ x.snd) then decide (x.snd ≤ (4294967296 : Int)) else false then decide ((-35184372088832 : Int) ≤ x.fst) else false then decide (x.fst ≤ (35184372088832 : Int)) else false) = fitsS x) := by
  intros
  kernel_rfl
theorem wp77 (x : Int × Int) : wpF Tryz.prog G138 (na ()) Tryz.f77 cFits (x, ()) := by
  refine (vc77 x).mpr ?_
  unfold fitsS
  by_cases h1 : 1 ≤ x.2 <;> by_cases h2 : x.2 ≤ 4294967296 <;> by_cases h3 : -35184372088832 ≤ x.1 <;> by_cases h4 : x.1 ≤ 35184372088832 <;> simp [h1, h2, h3, h4]
theorem ok77 : Ok Tryz.prog 77 cFits := ok_of_wp mixed g138 (by kernel_rfl) (by kernel_rfl) na fun xx => wp77 xx.1
abbrev G139 : Gam := (77, cFits) :: G138
theorem g139 : GamOk Tryz.prog G139 := .cons ok77 g138
def fitP (x : Int × Int) : Prop := (1 ≤ x.2 ∧ x.2 ≤ 4294967296) ∧ -35184372088832 ≤ x.1 ∧ x.1 ≤ 35184372088832
def cLess : Con := { args := [aP, aP], ress := [Bo], owns := [], pre := fun (a, b, _) => [fitP a, fitP b], spec := fun (a, b, _) => (decide (a.1 * b.2 < b.1 * a.2), ()) }
abbrev annLess (a b : Int × Int) : Ann := { X := Int × Int × Int × Int, σ := fun (p, q, r, s) => ⟨2, [(5, .one (.int .i64 p)), (6, .one (.int .i64 q)), (7, .one (.int .i64 r)), (8, .one (.int .i64 s))], []⟩, inv := fun (p, q, r, s) => (-35184372088832 ≤ p ∧ p ≤ 35184372088832) ∧ (1 ≤ q ∧ q ≤ 4294967296) ∧ (-35184372088832 ≤ r ∧ r ≤ 35184372088832) ∧ (1 ≤ s ∧ s ≤ 4294967296) ∧ (p * s < r * q ↔ a.1 * b.2 < b.1 * a.2), mu := fun (_, q, _, s) => (q + s).toNat }
theorem vc78 : ∀ (a b : Int × Int), wpF Tryz.prog G139 (ann0 (annLess a b)) Tryz.f78 cLess (a, b, ()) = (fitP a → fitP b → ∃ (x : Int × Int × Int × Int), (a.fst = x.1 ∧ a.snd = x.2.1 ∧ b.fst = x.2.2.1 ∧ b.snd = x.2.2.2) ∧ (((-35184372088832 : Int) ≤ x.fst ∧ x.fst ≤ (35184372088832 : Int)) ∧ ((1 : Int) ≤ x.2.fst ∧ x.2.fst ≤ (4294967296 : Int)) ∧ ((-35184372088832 : Int) ≤ x.2.2.fst ∧ x.2.2.fst ≤ (35184372088832 : Int)) ∧ ((1 : Int) ≤ x.2.2.snd ∧ x.2.2.snd ≤ (4294967296 : Int)) ∧ (x.fst * x.2.2.snd < x.2.2.fst * x.2.fst ↔ a.fst * b.snd < b.fst * a.snd)) ∧ ∀ (x : Int × Int × Int × Int), ((-35184372088832 : Int) ≤ x.fst ∧ x.fst ≤ (35184372088832 : Int)) ∧ ((1 : Int) ≤ x.2.fst ∧ x.2.fst ≤ (4294967296 : Int)) ∧ ((-35184372088832 : Int) ≤ x.2.2.fst ∧ x.2.2.fst ≤ (35184372088832 : Int)) ∧ ((1 : Int) ≤ x.2.2.snd ∧ x.2.2.snd ≤ (4294967296 : Int)) ∧ (x.fst * x.2.2.snd < x.2.2.fst * x.2.fst ↔ a.fst * b.snd < b.fst * a.snd) → (((-1000000000000000 : Int) ≤ x.1 ∧ x.1 ≤ (1000000000000000 : Int)) ∧ ((0 : Int) < x.2.1 ∧ x.2.1 ≤ (1000000000000000 : Int)) ∧ ((-1000000000000000 : Int) ≤ x.2.2.1 ∧ x.2.2.1 ≤ (1000000000000000 : Int)) ∧ (0 : Int) < x.2.2.2 ∧ x.2.2.2 ≤ (1000000000000000 : Int)) ∧ ((x.1 / x.2.1 != x.2.2.1 / x.2.2.2) = true → decide (x.1 / x.2.1 < x.2.2.1 / x.2.2.2) = decide (a.fst * b.snd < b.fst * a.snd)) ∧ ((x.1 / x.2.1 != x.2.2.1 / x.2.2.2) = false → (((-9223372036854775808 : Int) ≤ x.1 / x.2.1 * x.2.1 ∧ x.1 / x.2.1 * x.2.1 ≤ (9223372036854775807 : Int)) ∧ ((-9223372036854775808 : Int) ≤ x.1 - x.1 / x.2.1 * x.2.1 ∧ x.1 - x.1 / x.2.1 * x.2.1 ≤ (9223372036854775807 : Int)) ∧ ((-9223372036854775808 : Int) ≤ x.2.2.1 / x.2.2.2 * x.2.2.2 ∧ x.2.2.1 / x.2.2.2 * x.2.2.2 ≤ (9223372036854775807 : Int)) ∧ (-9223372036854775808 : Int) ≤ x.2.2.1 - x.2.2.1 / x.2.2.2 * x.2.2.2 ∧ x.2.2.1 - x.2.2.1 / x.2.2.2 * x.2.2.2 ≤ (9223372036854775807 : Int)) ∧ ((bif x.1 - x.1 / x.2.1 * x.2.1 == (0 : Int) then true else x.2.2.1 - x.2.2.1 / x.2.2.2 * x.2.2.2 == (0 : Int)) = true → (bif x.1 - x.1 / x.2.1 * x.2.1 == (0 : Int) then decide ((0 : Int) < x.2.2.1 - x.2.2.1 / x.2.2.2 * x.2.2.2) else false) = decide (a.fst * b.snd < b.fst * a.snd)) ∧ ((bif x.1 - x.1 / x.2.1 * x.2.1 == (0 : Int) then true else x.2.2.1 - x.2.2.1 / x.2.2.2 * x.2.2.2 == (0 : Int)) = false → ∃ (y : Int × Int × Int × Int), (x.2.2.2 = y.1 ∧ x.2.2.1 - x.2.2.1 / x.2.2.2 * x.2.2.2 = y.2.1 ∧ x.2.1 = y.2.2.1 ∧ x.1 - x.1 / x.2.1 * x.2.1 = y.2.2.2) ∧ (((-35184372088832 : Int) ≤ y.fst ∧ y.fst ≤ (35184372088832 : Int)) ∧ ((1 : Int) ≤ y.2.fst ∧ y.2.fst ≤ (4294967296 : Int)) ∧ ((-35184372088832 : Int) ≤ y.2.2.fst ∧ y.2.2.fst ≤ (35184372088832 : Int)) ∧ ((1 : Int) ≤ y.2.2.snd ∧ y.2.2.snd ≤ (4294967296 : Int)) ∧ (y.fst * y.2.2.snd < y.2.2.fst * y.2.fst ↔ a.fst * b.snd < b.fst * a.snd)) ∧ Int.toNat (y.2.fst + y.2.2.snd) < Int.toNat (x.2.fst + x.2.2.snd)))) := by
  intros
  kernel_rfl
theorem wp78 (a b : Int × Int) : wpF Tryz.prog G139 (ann0 (annLess a b)) Tryz.f78 cLess (a, b, ()) := by
  refine (vc78 a b).mpr ?_
  intro ha hb
  obtain ⟨⟨a1, a2⟩, a3⟩ := ha
  obtain ⟨⟨b1, b2⟩, b3⟩ := hb
  refine ⟨(a.1, a.2, b.1, b.2), ⟨rfl, rfl, rfl, rfl⟩, ⟨a3, ⟨a1, a2⟩, b3, ⟨b1, b2⟩, Iff.rfl⟩, ?_⟩
  rintro ⟨p, q, r, s⟩ ⟨i1, i2, i3, i4, i5⟩
  dsimp only at i1 i2 i3 i4 i5 ⊢
  have f1 := floor_rest (p := p) (q := q) (by omega)
  have f2 := floor_rest (p := r) (q := s) (by omega)
  refine ⟨by omega, fun h => ?_, fun h => ⟨by omega, fun h1 => ?_, fun h1 => ?_⟩⟩
  · have hne := bne_iff_ne.1 h
    rw [less_cmp (by omega) (by omega) hne]
    exact decide_eq_decide.2 i5
  · have he := bne_eq_false_iff_eq.1 h
    have hc := less_cut (p := p) (q := q) (r := r) (s := s) (x := p / q)
    rw [show decide (a.1 * b.2 < b.1 * a.2) = decide (p * s < r * q) from (decide_eq_decide.2 i5).symm]
    rw [he] at hc f1 h1 ⊢
    have hc' : decide (p * s < r * q) = decide ((p - r / s * q) * s < (r - r / s * s) * q) := decide_eq_decide.2 hc
    rw [hc']
    generalize p - r / s * q = u at *
    generalize r - r / s * s = w at *
    by_cases hu : u = 0
    · subst hu
      by_cases hw : 0 < w
      · rw [decide_eq_true hw, decide_eq_true (by rw [Int.zero_mul]; exact Int.mul_pos hw (by omega))]; rfl
      · have : w = 0 := by omega
        subst this
        simp
    · have hw : w = 0 := by
        rw [show (u == 0) = false from beq_eq_false_iff_ne.2 hu] at h1
        exact eq_of_beq h1
      subst hw
      have m := Int.mul_nonneg (show 0 ≤ u by omega) (show 0 ≤ s by omega)
      have hn : decide (u * s < 0 * q) = false := decide_eq_false (by omega)
      rw [show (u == 0) = false from beq_eq_false_iff_ne.2 hu, hn]
      rfl
  · have he := bne_eq_false_iff_eq.1 h
    have hc := less_cut (p := p) (q := q) (r := r) (s := s) (x := p / q)
    rw [i5] at hc
    have hu : p - p / q * q ≠ 0 := by
      intro e
      rw [e] at h1
      cases h1
    have hw : r - r / s * s ≠ 0 := by
      intro e
      rw [show (p - p / q * q == 0) = false from beq_eq_false_iff_ne.2 hu, e] at h1
      cases h1
    rw [← he] at f2 hw ⊢
    generalize p - p / q * q = u at *
    generalize r - p / q * s = w at *
    refine ⟨(s, w, q, u), ⟨rfl, rfl, rfl, rfl⟩, ⟨⟨by dsimp only; omega, by dsimp only; omega⟩, ⟨by dsimp only; omega, by dsimp only; omega⟩, ⟨by dsimp only; omega, by dsimp only; omega⟩, ⟨by dsimp only; omega, by dsimp only; omega⟩, ?_⟩, by dsimp only; omega⟩
    dsimp only
    rw [hc, Int.mul_comm s u, Int.mul_comm q w]
theorem ok78 : Ok Tryz.prog 78 cLess := ok_of_wp mixed g139 (by kernel_rfl) (by kernel_rfl) (fun xx => ann0 (annLess xx.1 xx.2.1)) fun xx => wp78 xx.1 xx.2.1
abbrev G140 : Gam := (78, cLess) :: G139
theorem g140 : GamOk Tryz.prog G140 := .cons ok78 g139
end Go.Proofs.YtacaadhlobbemaaGreatDoor
