/- Contracts of the functions that the laws reach: part of the proof. -/
import Derived.Test.YtcledkhhecdppaaGreatDoorFA
set_option linter.unusedSimpArgs false
set_option linter.unusedVariables false
set_option maxRecDepth 20000
namespace Go.Proofs.YtcledkhhecdppaaGreatDoor
open Go.Sx
set_option pp.deepTerms true
set_option pp.maxSteps 1000000
set_option maxHeartbeats 20000000
abbrev AM : Type := List (Arr × Int)
def addM (m : AM) (k : Arr) (h : Int) : AM := mpSet sArr k ((mpGet sArr k m).getD 0 + h) m
def hitM (c : Cab) (m : AM) (w : Stp) : AM := if w.2.1 = 0 then addM m (w.1, sA, 0) w.2.2.2.2 else if w.2.1 = c.1.length then addM m (w.1, sB, 0) w.2.2.2.2 else m
def sumsM (c : Cab) (l : List Stp) : AM := l.foldl (hitM c) []
def rowA (p : Arr × Int) : Arr := (p.1.1, p.1.2.1, p.2)
def arrS (c : Cab) (f : Flt) (win : Int) : List Arr := sortA ((sumsM c (wavesS c f win)).map rowA)
def seenA (m : AM) (seen : List Nat) : List Arr := seen.map fun p => rowA (m.getD p ((0, ⟨#[]⟩, 0), 0))
def cArr : Con := { args := [aC, aF, aI], ress := [(false, .list 107 sArr)], owns := [], pre := fun (c, f, win, _) => [winS c f win = 0], spec := fun (c, f, win, _) => (arrS c f win, ()) }
abbrev annAr (c : Cab) (f : Flt) (win : Int) : Ann := { X := List Stp × List Stp, σ := fun p => ⟨14, [(0, .one (.fv 11)), (2, .one (.ptr 7 0)), (3, .one (.ptr 9 0)), (7, .one (.sl 13))], [(0, .imm 166 sPt c.1), (1, .imm 3 sI c.2.1), (2, .box 37 [.sl 0, .sl 1, .int .i64 c.2.2.1, .int .i64 c.2.2.2]), (4, .mp 107 true false sArr sI (sumsM c p.2)), (5, .box 248 [.sl 4]), (7, .box 37 [.sl 0, .sl 1, .int .i64 c.2.2.1, .int .i64 c.2.2.2]), (9, .box 3 [.int .i64 (f.2.2.1 + win)]), (11, .yld .ready), (12, .sus [(3, .one (.ptr 2 0)), (7, .one (.ptr 5 0))]), (13, .ownT 170 sStp p.1)]⟩, inv := fun p => (∀ w ∈ p.1, wvH c w) ∧ (∀ w ∈ p.2, wvH c w) ∧ fltV c f ∧ (0 ≤ win ∧ win ≤ 1000) ∧ p.2 ++ runS c (f.2.2.1 + win) p.1 = wavesS c f win ∧ p.2.length + wtL p.1 ≤ 4374, mu := fun p => wtL p.1 }
abbrev annAr3 (m : AM) : Nat → Option Ann := fun i => if i = 3 then some { X := List Nat, σ := fun seen => ⟨3, [(9, .one (.sl 2)), (56, .one (.sl 1))], [(1, .mpi 0 107 true false sArr sI m seen), (0, .mp 107 true false sArr sI m), (2, .own 107 sArr (seenA m seen))]⟩, inv := fun seen => seen.Nodup ∧ (∀ p ∈ seen, p < m.length), mu := fun seen => m.length - seen.length } else none
theorem keyA_eq {k k' : Arr} : keyEq sArr k k' = true ↔ k = k' := by
 constructor
 ·intro h
  simp only [keyEq, Bool.and_eq_true, beq_iff_eq] at h
  exact Prod.ext h.1 (Prod.ext (ba_ext h.2.1) h.2.2)
 ·rintro rfl
  simp [keyEq]
theorem keyA_refl (k : Arr) : keyEq sArr k k = true := keyA_eq.2 rfl
theorem mp_get_set (k : Arr) (u : Int) : ∀ m : AM, mpGet sArr k (mpSet sArr k u m) = some u
 | [] => by simp only [mpSet, mpGet, keyA_refl, if_true]
 | x :: r => by
  simp only [mpSet]
  split
  ·simp only [mpGet, keyA_refl, if_true]
  ·rename_i h
   simp only [mpGet]
   rw [if_neg h, mp_get_set k u r]
theorem mp_get_set0 (k : Arr) (m : AM) : SV.v false [SC.int .i64 ((mpGet sArr k (mpSet sArr k ((mpGet sArr k m).getD 0) m)).getD 0)] = SV.v false [SC.int .i64 ((mpGet sArr k m).getD 0)] := by
 rw [mp_get_set]; rfl
theorem mp_put_set (k : Arr) (u v : Int) : ∀ m : AM, mpPut v (mpSet sArr k u m) (mpIdx sArr k m) = mpSet sArr k v m
 | [] => rfl
 | x :: r => by
  simp only [mpSet, mpIdx]
  split
  ·rfl
  ·simp only [mpPut]; rw [mp_put_set k u v r]
theorem mp_idx_lt (k : Arr) (u : Int) : ∀ m : AM, mpIdx sArr k m < (mpSet sArr k u m).length
 | [] => by simp [mpIdx, mpSet]
 | x :: r => by
  have := mp_idx_lt k u r
  simp only [mpSet, mpIdx]
  split
  ·simp
  ·simp only [List.length_cons]; omega
theorem mp_set_len (k : Arr) (u : Int) : ∀ m : AM, (mpSet sArr k u m).length ≤ m.length + 1
 | [] => by simp [mpSet]
 | x :: r => by
  have := mp_set_len k u r
  simp only [mpSet]
  split
  ·simp
  ·simp only [List.length_cons]; omega
theorem mp_set_mem {k : Arr} {u : Int} {p : Arr × Int} : ∀ {m : AM}, p ∈ mpSet sArr k u m → p = (k, u) ∨ p ∈ m
 | [], h => by simpa [mpSet] using h
 | x :: r, h => by
  simp only [mpSet] at h
  split at h
  ·rcases List.mem_cons.1 h with h | h
   ·exact .inl h
   ·exact .inr (by simp [h])
  ·rcases List.mem_cons.1 h with h | h
   ·exact .inr (by simp [h])
   ·rcases mp_set_mem h with h | h
    ·exact .inl h
    ·exact .inr (by simp [h])
theorem mp_get_mem {k : Arr} : ∀ {m : AM} {v : Int}, mpGet sArr k m = some v → (k, v) ∈ m
 | [], v, h => by simp [mpGet] at h
 | x :: r, v, h => by
  simp only [mpGet] at h
  split at h
  ·rename_i e
   cases h
   rw [keyA_eq.1 e]; exact List.mem_cons_self
  ·exact List.mem_cons_of_mem _ (mp_get_mem h)
theorem mp_set_keys {k : Arr} {u : Int} : ∀ {m : AM}, (m.Pairwise fun a b => a.1 ≠ b.1) → (mpSet sArr k u m).Pairwise fun a b => a.1 ≠ b.1
 | [], _ => by simp [mpSet]
 | x :: r, h => by
  replace h := List.pairwise_cons.1 h
  simp only [mpSet]
  split
  ·rename_i e
   have e := keyA_eq.1 e
   refine List.pairwise_cons.2 ⟨fun p hp => ?_, h.2⟩
   rw [e]; exact h.1 p hp
  ·rename_i e
   refine List.pairwise_cons.2 ⟨fun p hp => ?_, mp_set_keys h.2⟩
   rcases mp_set_mem hp with rfl | hp
   ·exact fun q => e (keyA_eq.2 q.symm)
   ·exact h.1 p hp
def okM (m : AM) (n : Nat) : Prop := m.length ≤ n ∧ (∀ p ∈ m, -(17179869184 * (n : Int)) ≤ p.2 ∧ p.2 ≤ 17179869184 * n) ∧ (m.Pairwise fun a b => a.1 ≠ b.1) ∧ ∀ p ∈ m, p.1.2.2 = 0
theorem get_bd {m : AM} {n : Nat} (h : okM m n) (k : Arr) : -(17179869184 * (n : Int)) ≤ (mpGet sArr k m).getD 0 ∧ (mpGet sArr k m).getD 0 ≤ 17179869184 * n := by
 cases e : mpGet sArr k m with
 | none => simp only [Option.getD_none]; omega
 | some v => exact h.2.1 _ (mp_get_mem e)
theorem addM_ok {m : AM} {n : Nat} (h : okM m n) {k : Arr} (hk : k.2.2 = 0) {v : Int} (hv : -17179869184 ≤ v ∧ v ≤ 17179869184) : okM (addM m k v) (n + 1) := by
 have hg := get_bd h k
 obtain ⟨h1, h2, h3, h4⟩ := h
 unfold addM
 refine ⟨?_, fun p hp => ?_, mp_set_keys h3, fun p hp => ?_⟩
 ·have := mp_set_len k ((mpGet sArr k m).getD 0 + v) m; omega
 ·rcases mp_set_mem hp with rfl | hp
  ·simp only; omega
  ·have := h2 p hp; omega
 ·rcases mp_set_mem hp with rfl | hp
  ·exact hk
  ·exact h4 p hp
theorem okM_mono {m : AM} {n : Nat} (h : okM m n) : okM m (n + 1) := by
 obtain ⟨h1, h2, h3, h4⟩ := h
 exact ⟨by omega, fun p hp => by have := h2 p hp; omega, h3, h4⟩
theorem hitM_ok {c : Cab} {m : AM} {n : Nat} (h : okM m n) {w : Stp} (hw : -17179869184 ≤ w.2.2.2.2 ∧ w.2.2.2.2 ≤ 17179869184) : okM (hitM c m w) (n + 1) := by
 unfold hitM
 repeat' split
 ·exact addM_ok h rfl hw
 ·exact addM_ok h rfl hw
 ·exact okM_mono h
theorem sumsM_snoc (c : Cab) (l : List Stp) (w : Stp) : sumsM c (l ++ [w]) = hitM c (sumsM c l) w := by
 unfold sumsM; rw [List.foldl_append]; rfl
theorem fold_ok {c : Cab} : ∀ {l : List Stp} {m : AM} {n : Nat}, okM m n → (∀ w ∈ l, -17179869184 ≤ w.2.2.2.2 ∧ w.2.2.2.2 ≤ 17179869184) → okM (l.foldl (hitM c) m) (n + l.length)
 | [], _, _, h, _ => h
 | w :: r, m, n, h, hl => by
  have := fold_ok (c := c) (l := r) (hitM_ok (c := c) h (hl w (by simp))) fun x hx => hl x (by simp [hx])
  rw [show n + 1 + r.length = n + (w :: r).length by simp only [List.length_cons]; omega] at this
  exact this
theorem sumsM_ok {c : Cab} {l : List Stp} (h : ∀ w ∈ l, wvH c w) : okM (sumsM c l) l.length := by
 have := fold_ok (c := c) (l := l) (m := []) (n := 0) ⟨Nat.le_refl _, fun p hp => by simp at hp, .nil, fun p hp => by simp at hp⟩ fun w hw => by
  obtain ⟨a1, _, _, a4, a5⟩ := h w hw
  have := hbN_le (h := w.2.2.2.1.toNat) (by omega)
  omega
 rwa [Nat.zero_add] at this
theorem rowA_ne {m : AM} {n : Nat} (h : okM m n) : keyNe (m.map rowA) := by
 obtain ⟨_, _, h3, h4⟩ := h
 rw [keyNe, List.pairwise_map]
 refine List.Pairwise.imp_of_mem (fun {a b} ha hb q e => q ?_) h3
 have e1 := h4 a ha
 have e2 := h4 b hb
 exact Prod.ext e.1 (Prod.ext e.2 (by rw [e1, e2]))
theorem nodup_len : ∀ (n : Nat) {l : List Nat}, l.Nodup → (∀ p ∈ l, p < n) → l.length ≤ n
 | 0, [], _, _ => Nat.le_refl _
 | 0, p :: _, _, h => by have := h p (by simp); omega
 | n + 1, l, hn, h => by
  by_cases hm : n ∈ l
  ·have ih := nodup_len n (hn.erase n) fun p hp => by
    have := (hn.mem_erase_iff).1 hp
    have h2 := h p this.2
    have := this.1
    omega
   rw [List.length_erase_of_mem hm] at ih
   omega
  ·have ih := nodup_len n hn fun p hp => by
    have h2 := h p hp
    have : p ≠ n := by rintro rfl; exact hm hp
    omega
   omega
theorem seenA_perm {m : AM} {seen : List Nat} (h1 : seen.Nodup) (h2 : ∀ p ∈ seen, p < m.length) (h3 : ∀ p, p < m.length → p ∈ seen) : (seenA m seen).Perm (m.map rowA) := by
 have hp : seen.Perm (List.range m.length) := (List.perm_ext_iff_of_nodup h1 List.nodup_range).2 fun p => ⟨fun h => List.mem_range.2 (h2 p h), fun h => h3 p (List.mem_range.1 h)⟩
 have e : m.map rowA = (List.range m.length).map fun p => rowA (m.getD p ((0, ⟨#[]⟩, 0), 0)) := by
  apply List.ext_getElem?
  intro j
  rw [List.getElem?_map, List.getElem?_map]
  by_cases hj : j < m.length
  ·rw [List.getElem?_range hj, List.getElem?_eq_getElem hj]; simp [List.getD_eq_getElem?_getD, hj]
  ·rw [List.getElem?_eq_none (by omega), List.getElem?_eq_none (by simp; omega)]; rfl
 rw [e]
 exact hp.map _
def vc91_0 (c : Cab) (f : Flt) (win : Int) := ((0 : Int), (0 : Int), false, (0 : Int), (0 : Int))
def vc91_1 (c : Cab) (f : Flt) (win : Int) := (Sch.prod (Sch.int IntKind.i64) (Sch.prod Sch.str (Sch.int IntKind.i64)))
def vc91_2 (c : Cab) (f : Flt) (win : Int) := (((0 : Int), ByteArray.mk (Array.mk []), (0 : Int)), (0 : Int))
def vc91_3 (c : Cab) (f : Flt) (win : Int) := (c.1, c.snd.1, c.snd.snd.fst, c.snd.snd.snd)
theorem vc91 : ∀ (c : Cab) (f : Flt) (win : Int), wpFG Tryz.prog G64 (annAr3 (sumsM c (wavesS c f win))) (fun (g : FuncId) (id : Nat) => if g = (142 : FuncId) then some (annAr c f win) else none) (Sx.look [((87 : Nat), Tryz.f87), ((142 : Nat), Tryz.f142)]) Tryz.f91 cArr (c, f, win, ()) = (winS c f win = (0 : Int) → ((∀ (k k' : Int × ByteArray × Int), some (k.fst == k'.fst && (ByteArray.toList k.snd.fst == ByteArray.toList k'.snd.fst && (k.snd.snd == k'.snd.snd && true))) = some (match decide (k.fst = k'.fst) with | false => false | true => match List.beq (ByteArray.toList k.snd.fst) (ByteArray.toList k'.snd.fst) with | false => false | true => decide (k.snd.snd = k'.snd.snd))) ∧ ∀ (k : Int × ByteArray × Int), true = true) ∧ ((-9223372036854775808 : Int) ≤ f.snd.snd.fst + win ∧ f.snd.snd.fst + win ≤ (9223372036854775807 : Int)) ∧ ((-9223372036854775808 : Int) ≤ f.snd.snd.snd * (262144 : Int) ∧ f.snd.snd.snd * (262144 : Int) ≤ (9223372036854775807 : Int)) ∧ (((0 : Int) ≤ f.fst ∧ f.fst < (↑(List.length c.fst) : Int)) ∧ ((0 : Int) ≤ f.fst ∧ f.fst < (↑(List.length c.fst) : Int)) ∧ (-9223372036854775808 : Int) ≤ (List.getD c.fst (Int.toNat f.fst) ((0 : Int), (0 : Int))).snd - f.snd.fst ∧ (List.getD c.fst (Int.toNat f.fst) ((0 : Int), (0 : Int))).snd - f.snd.fst ≤ (9223372036854775807 : Int)) ∧ (((-9223372036854775808 : Int) ≤ f.snd.snd.fst + f.snd.fst ∧ f.snd.snd.fst + f.snd.fst ≤ (9223372036854775807 : Int)) ∧ ((-9223372036854775808 : Int) ≤ f.snd.snd.fst + ((List.getD c.fst (Int.toNat f.fst) ((0 : Int), (0 : Int))).snd - f.snd.fst) ∧ f.snd.snd.fst + ((List.getD c.fst (Int.toNat f.fst) ((0 : Int), (0 : Int))).snd - f.snd.fst) ≤ (9223372036854775807 : Int)) ∧ (-9223372036854775808 : Int) ≤ f.fst + (1 : Int) ∧ f.fst + (1 : Int) ≤ (9223372036854775807 : Int)) ∧ ∃ (x : List (Int × Int × Bool × Int × Int) × List (Int × Int × Bool × Int × Int)), (c.1 = c.fst ∧ c.snd.1 = c.snd.fst ∧ c.snd.snd.fst = c.snd.snd.fst ∧ c.snd.snd.snd = c.snd.snd.snd ∧ [] = sumsM c x.snd ∧ c.snd.snd.fst = c.snd.snd.fst ∧ c.snd.snd.snd = c.snd.snd.snd ∧ f.snd.snd.fst + win = f.snd.snd.fst + win ∧ [(f.snd.snd.fst + f.snd.fst, f.fst, false, (0 : Int), f.snd.snd.snd * (262144 : Int)), (f.snd.snd.fst + ((List.getD c.fst (Int.toNat f.fst) ((0 : Int), (0 : Int))).snd - f.snd.fst), f.fst + (1 : Int), true, (0 : Int), f.snd.snd.snd * (262144 : Int))] = x.fst) ∧ ((∀ (w : Stp), w ∈ x.fst → wvH c w) ∧ (∀ (w : Stp), w ∈ x.snd → wvH c w) ∧ fltV c f ∧ ((0 : Int) ≤ win ∧ win ≤ (1000 : Int)) ∧ x.snd ++ runS c (f.snd.snd.fst + win) x.fst = wavesS c f win ∧ List.length x.snd + wtL x.fst ≤ (4374 : Nat)) ∧ ∀ (x : List Stp × List Stp), (∀ (w : Stp), w ∈ x.fst → wvH c w) ∧ (∀ (w : Stp), w ∈ x.snd → wvH c w) ∧ fltV c f ∧ ((0 : Int) ≤ win ∧ win ≤ (1000 : Int)) ∧ x.snd ++ runS c (f.snd.snd.fst + win) x.fst = wavesS c f win ∧ List.length x.snd + wtL x.fst ≤ (4374 : Nat) → (decide ((0 : Int) < (↑(List.length x.fst) : Int)) = true → (((0 : Int) ≤ (0 : Int) ∧ (0 : Int) < (↑(List.length x.fst) : Int)) ∧ (0 : Int) ≤ (0 : Int) ∧ (0 : Int) < (↑(List.length x.fst) : Int)) ∧ ((0 : Int) ≤ (1 : Int) ∧ (1 : Int) ≤ (↑(List.length x.fst) : Int)) ∧ (decide (f.snd.snd.fst + win < (List.getD x.fst (0 : Nat) (vc91_0 c f win)).fst) = true → ∃ (y : List (Int × Int × Bool × Int × Int) × List (Int × Int × Bool × Int × Int)), (c.1 = c.fst ∧ c.snd.1 = c.snd.fst ∧ c.snd.snd.fst = c.snd.snd.fst ∧ c.snd.snd.snd = c.snd.snd.snd ∧ sumsM c x.snd = sumsM c y.snd ∧ c.snd.snd.fst = c.snd.snd.fst ∧ c.snd.snd.snd = c.snd.snd.snd ∧ f.snd.snd.fst + win = f.snd.snd.fst + win ∧ List.drop (1 : Nat) x.fst = y.fst) ∧ ((∀ (w : Stp), w ∈ y.fst → wvH c w) ∧ (∀ (w : Stp), w ∈ y.snd → wvH c w) ∧ fltV c f ∧ ((0 : Int) ≤ win ∧ win ≤ (1000 : Int)) ∧ y.snd ++ runS c (f.snd.snd.fst + win) y.fst = wavesS c f win ∧ List.length y.snd + wtL y.fst ≤ (4374 : Nat)) ∧ wtL y.fst < wtL x.fst) ∧ (decide (f.snd.snd.fst + win < (List.getD x.fst (0 : Nat) (vc91_0 c f win)).fst) = false → (((List.getD x.fst (0 : Nat) (vc91_0 c f win)).snd.fst == (0 : Int)) = true → (SV.v false [SC.int IntKind.i64 (Option.getD (mpGet (vc91_1 c f win) ((List.getD x.fst (0 : Nat) (vc91_0 c f win)).fst, ByteArray.mk (Array.mk [(65 : UInt8)]), (0 : Int)) (mpSet (vc91_1 c f win) ((List.getD x.fst (0 : Nat) (vc91_0 c f win)).fst, ByteArray.mk (Array.mk [(65 : UInt8)]), (0 : Int)) (Option.getD (mpGet (vc91_1 c f win) ((List.getD x.fst (0 : Nat) (vc91_0 c f win)).fst, ByteArray.mk (Array.mk [(65 : UInt8)]), (0 : Int)) (sumsM c x.snd)) (0 : Int)) (sumsM c x.snd))) (0 : Int))] = SV.v false [SC.int IntKind.i64 (Option.getD (mpGet (vc91_1 c f win) ((List.getD x.fst (0 : Nat) (vc91_0 c f win)).fst, ByteArray.mk (Array.mk [(65 : UInt8)]), (0 : Int)) (sumsM c x.snd)) (0 : Int))] ∧ ((-9223372036854775808 : Int) ≤ Option.getD (mpGet (vc91_1 c f win) ((List.getD x.fst (0 : Nat) (vc91_0 c f win)).fst, ByteArray.mk (Array.mk [(65 : UInt8)]), (0 : Int)) (sumsM c x.snd)) (0 : Int) + (List.getD x.fst (0 : Nat) (vc91_0 c f win)).snd.snd.snd.snd ∧ Option.getD (mpGet (vc91_1 c f win) ((List.getD x.fst (0 : Nat) (vc91_0 c f win)).fst, ByteArray.mk (Array.mk [(65 : UInt8)]), (0 : Int)) (sumsM c x.snd)) (0 : Int) + (List.getD x.fst (0 : Nat) (vc91_0 c f win)).snd.snd.snd.snd ≤ (9223372036854775807 : Int)) ∧ (0 : Int) ≤ (↑(mpIdx (vc91_1 c f win) ((List.getD x.fst (0 : Nat) (vc91_0 c f win)).fst, ByteArray.mk (Array.mk [(65 : UInt8)]), (0 : Int)) (sumsM c x.snd)) : Int) ∧ (↑(mpIdx (vc91_1 c f win) ((List.getD x.fst (0 : Nat) (vc91_0 c f win)).fst, ByteArray.mk (Array.mk [(65 : UInt8)]), (0 : Int)) (sumsM c x.snd)) : Int) < (↑(List.length (mpSet (vc91_1 c f win) ((List.getD x.fst (0 : Nat) (vc91_0 c f win)).fst, ByteArray.mk (Array.mk [(65 : UInt8)]), (0 : Int)) (Option.getD (mpGet (vc91_1 c f win) ((List.getD x.fst (0 : Nat) (vc91_0 c f win)).fst, ByteArray.mk (Array.mk [(65 : UInt8)]), (0 : Int)) (sumsM c x.snd)) (0 : Int)) (sumsM c x.snd))) : Int)) ∧ (false = true → ∃ (x_1 : List Nat), (mpPut (Option.getD (mpGet (vc91_1 c f win) ((List.getD x.fst (0 : Nat) (vc91_0 c f win)).fst, ByteArray.mk (Array.mk [(65 : UInt8)]), (0 : Int)) (sumsM c x.snd)) (0 : Int) + (List.getD x.fst (0 : Nat) (vc91_0 c f win)).snd.snd.snd.snd) (mpSet (vc91_1 c f win) ((List.getD x.fst (0 : Nat) (vc91_0 c f win)).fst, ByteArray.mk (Array.mk [(65 : UInt8)]), (0 : Int)) (Option.getD (mpGet (vc91_1 c f win) ((List.getD x.fst (0 : Nat) (vc91_0 c f win)).fst, ByteArray.mk (Array.mk [(65 : UInt8)]), (0 : Int)) (sumsM c x.snd)) (0 : Int)) (sumsM c x.snd)) (mpIdx (vc91_1 c f win) ((List.getD x.fst (0 : Nat) (vc91_0 c f win)).fst, ByteArray.mk (Array.mk [(65 : UInt8)]), (0 : Int)) (sumsM c x.snd)) = sumsM c (wavesS c f win) ∧ [] = x_1 ∧ mpPut (Option.getD (mpGet (vc91_1 c f win) ((List.getD x.fst (0 : Nat) (vc91_0 c f win)).fst, ByteArray.mk (Array.mk [(65 : UInt8)]), (0 : Int)) (sumsM c x.snd)) (0 : Int) + (List.getD x.fst (0 : Nat) (vc91_0 c f win)).snd.snd.snd.snd) (mpSet (vc91_1 c f win) ((List.getD x.fst (0 : Nat) (vc91_0 c f win)).fst, ByteArray.mk (Array.mk [(65 : UInt8)]), (0 : Int)) (Option.getD (mpGet (vc91_1 c f win) ((List.getD x.fst (0 : Nat) (vc91_0 c f win)).fst, ByteArray.mk (Array.mk [(65 : UInt8)]), (0 : Int)) (sumsM c x.snd)) (0 : Int)) (sumsM c x.snd)) (mpIdx (vc91_1 c f win) ((List.getD x.fst (0 : Nat) (vc91_0 c f win)).fst, ByteArray.mk (Array.mk [(65 : UInt8)]), (0 : Int)) (sumsM c x.snd)) = sumsM c (wavesS c f win) ∧ List.length (seenA (sumsM c (wavesS c f win)) x_1) = (0 : Nat)) ∧ (List.Nodup x_1 ∧ ∀ (p : Nat), p ∈ x_1 → p < List.length (sumsM c (wavesS c f win))) ∧ ∀ (x : List Nat), (List.Nodup x ∧ ∀ (p : Nat), p ∈ x → p < List.length (sumsM c (wavesS c f win))) → sumsM c (wavesS c f win) = sumsM c (wavesS c f win) ∧ (∀ (p : Nat), p < List.length (sumsM c (wavesS c f win)) → (p ∈ x → False) → (true = true → (sumsM c (wavesS c f win) = sumsM c (wavesS c f win) ∧ (x ++ [p] = [] → False) ∧ List.getLastD (x ++ [p]) (0 : Nat) < List.length (sumsM c (wavesS c f win))) ∧ (List.length (seenA (sumsM c (wavesS c f win)) x) + (1 : Nat)) * (32 : Nat) ≤ (140737488355328 : Nat) ∧ ∃ (y : List Nat), (sumsM c (wavesS c f win) = sumsM c (wavesS c f win) ∧ x ++ [p] = y ∧ sumsM c (wavesS c f win) = sumsM c (wavesS c f win) ∧ seenA (sumsM c (wavesS c f win)) x ++ [((List.getD (sumsM c (wavesS c f win)) (List.getLastD (x ++ [p]) (0 : Nat)) (vc91_2 c f win)).fst.fst, (List.getD (sumsM c (wavesS c f win)) (List.getLastD (x ++ [p]) (0 : Nat)) (vc91_2 c f win)).fst.snd.fst, (List.getD (sumsM c (wavesS c f win)) (List.getLastD (x ++ [p]) (0 : Nat)) (vc91_2 c f win)).snd)] = seenA (sumsM c (wavesS c f win)) y) ∧ (List.Nodup y ∧ ∀ (p : Nat), p ∈ y → p < List.length (sumsM c (wavesS c f win))) ∧ List.length (sumsM c (wavesS c f win)) - List.length y < List.length (sumsM c (wavesS c f win)) - List.length x) ∧ (true = false → preA (seenA (sumsM c (wavesS c f win)) x) ∧ true = true ∧ sortA (seenA (sumsM c (wavesS c f win)) x) = arrS c f win)) ∧ ((∀ (p : Nat), p < List.length (sumsM c (wavesS c f win)) → p ∈ x) → (false = true → (sumsM c (wavesS c f win) = sumsM c (wavesS c f win) ∧ (x = [] → False) ∧ List.getLastD x (0 : Nat) < List.length (sumsM c (wavesS c f win))) ∧ (List.length (seenA (sumsM c (wavesS c f win)) x) + (1 : Nat)) * (32 : Nat) ≤ (140737488355328 : Nat) ∧ ∃ (y : List Nat), (sumsM c (wavesS c f win) = sumsM c (wavesS c f win) ∧ x = y ∧ sumsM c (wavesS c f win) = sumsM c (wavesS c f win) ∧ seenA (sumsM c (wavesS c f win)) x ++ [((List.getD (sumsM c (wavesS c f win)) (List.getLastD x (0 : Nat)) (vc91_2 c f win)).fst.fst, (List.getD (sumsM c (wavesS c f win)) (List.getLastD x (0 : Nat)) (vc91_2 c f win)).fst.snd.fst, (List.getD (sumsM c (wavesS c f win)) (List.getLastD x (0 : Nat)) (vc91_2 c f win)).snd)] = seenA (sumsM c (wavesS c f win)) y) ∧ (List.Nodup y ∧ ∀ (p : Nat), p ∈ y → p < List.length (sumsM c (wavesS c f win))) ∧ List.length (sumsM c (wavesS c f win)) - List.length y < List.length (sumsM c (wavesS c f win)) - List.length x) ∧ (false = false → preA (seenA (sumsM c (wavesS c f win)) x) ∧ true = true ∧ sortA (seenA (sumsM c (wavesS c f win)) x) = arrS c f win))) ∧ (false = false → (cabS (vc91_3 c f win) = (0 : Int) ∧ wvC (vc91_3 c f win) ((List.getD x.fst (0 : Nat) (vc91_0 c f win)).fst, (List.getD x.fst (0 : Nat) (vc91_0 c f win)).snd.fst, (List.getD x.fst (0 : Nat) (vc91_0 c f win)).snd.snd.fst, (List.getD x.fst (0 : Nat) (vc91_0 c f win)).snd.snd.snd.fst, (List.getD x.fst (0 : Nat) (vc91_0 c f win)).snd.snd.snd.snd)) ∧ (List.length (List.drop (1 : Nat) x.fst) + List.length (childS (vc91_3 c f win) ((List.getD x.fst (0 : Nat) (vc91_0 c f win)).fst, (List.getD x.fst (0 : Nat) (vc91_0 c f win)).snd.fst, (List.getD x.fst (0 : Nat) (vc91_0 c f win)).snd.snd.fst, (List.getD x.fst (0 : Nat) (vc91_0 c f win)).snd.snd.snd.fst, (List.getD x.fst (0 : Nat) (vc91_0 c f win)).snd.snd.snd.snd))) * (40 : Nat) ≤ (140737488355328 : Nat) ∧ ∃ (y : List (Int × Int × Bool × Int × Int) × List (Int × Int × Bool × Int × Int)), (c.1 = c.fst ∧ c.snd.1 = c.snd.fst ∧ c.snd.snd.fst = c.snd.snd.fst ∧ c.snd.snd.snd = c.snd.snd.snd ∧ mpPut (Option.getD (mpGet (vc91_1 c f win) ((List.getD x.fst (0 : Nat) (vc91_0 c f win)).fst, ByteArray.mk (Array.mk [(65 : UInt8)]), (0 : Int)) (sumsM c x.snd)) (0 : Int) + (List.getD x.fst (0 : Nat) (vc91_0 c f win)).snd.snd.snd.snd) (mpSet (vc91_1 c f win) ((List.getD x.fst (0 : Nat) (vc91_0 c f win)).fst, ByteArray.mk (Array.mk [(65 : UInt8)]), (0 : Int)) (Option.getD (mpGet (vc91_1 c f win) ((List.getD x.fst (0 : Nat) (vc91_0 c f win)).fst, ByteArray.mk (Array.mk [(65 : UInt8)]), (0 : Int)) (sumsM c x.snd)) (0 : Int)) (sumsM c x.snd)) (mpIdx (vc91_1 c f win) ((List.getD x.fst (0 : Nat) (vc91_0 c f win)).fst, ByteArray.mk (Array.mk [(65 : UInt8)]), (0 : Int)) (sumsM c x.snd)) = sumsM c y.snd ∧ c.snd.snd.fst = c.snd.snd.fst ∧ c.snd.snd.snd = c.snd.snd.snd ∧ f.snd.snd.fst + win = f.snd.snd.fst + win ∧ List.drop (1 : Nat) x.fst ++ childS (vc91_3 c f win) ((List.getD x.fst (0 : Nat) (vc91_0 c f win)).fst, (List.getD x.fst (0 : Nat) (vc91_0 c f win)).snd.fst, (List.getD x.fst (0 : Nat) (vc91_0 c f win)).snd.snd.fst, (List.getD x.fst (0 : Nat) (vc91_0 c f win)).snd.snd.snd.fst, (List.getD x.fst (0 : Nat) (vc91_0 c f win)).snd.snd.snd.snd) = y.fst) ∧ ((∀ (w : Stp), w ∈ y.fst → wvH c w) ∧ (∀ (w : Stp), w ∈ y.snd → wvH c w) ∧ fltV c f ∧ ((0 : Int) ≤ win ∧ win ≤ (1000 : Int)) ∧ y.snd ++ runS c (f.snd.snd.fst + win) y.fst = wavesS c f win ∧ List.length y.snd + wtL y.fst ≤ (4374 : Nat)) ∧ wtL y.fst < wtL x.fst)) ∧ (((List.getD x.fst (0 : Nat) (vc91_0 c f win)).snd.fst == (0 : Int)) = false → (((List.getD x.fst (0 : Nat) (vc91_0 c f win)).snd.fst == (↑(List.length c.fst) : Int)) = true → (SV.v false [SC.int IntKind.i64 (Option.getD (mpGet (vc91_1 c f win) ((List.getD x.fst (0 : Nat) (vc91_0 c f win)).fst, ByteArray.mk (Array.mk [(66 : UInt8)]), (0 : Int)) (mpSet (vc91_1 c f win) ((List.getD x.fst (0 : Nat) (vc91_0 c f win)).fst, ByteArray.mk (Array.mk [(66 : UInt8)]), (0 : Int)) (Option.getD (mpGet (vc91_1 c f win) ((List.getD x.fst (0 : Nat) (vc91_0 c f win)).fst, ByteArray.mk (Array.mk [(66 : UInt8)]), (0 : Int)) (sumsM c x.snd)) (0 : Int)) (sumsM c x.snd))) (0 : Int))] = SV.v false [SC.int IntKind.i64 (Option.getD (mpGet (vc91_1 c f win) ((List.getD x.fst (0 : Nat) (vc91_0 c f win)).fst, ByteArray.mk (Array.mk [(66 : UInt8)]), (0 : Int)) (sumsM c x.snd)) (0 : Int))] ∧ ((-9223372036854775808 : Int) ≤ Option.getD (mpGet (vc91_1 c f win) ((List.getD x.fst (0 : Nat) (vc91_0 c f win)).fst, ByteArray.mk (Array.mk [(66 : UInt8)]), (0 : Int)) (sumsM c x.snd)) (0 : Int) + (List.getD x.fst (0 : Nat) (vc91_0 c f win)).snd.snd.snd.snd ∧ Option.getD (mpGet (vc91_1 c f win) ((List.getD x.fst (0 : Nat) (vc91_0 c f win)).fst, ByteArray.mk (Array.mk [(66 : UInt8)]), (0 : Int)) (sumsM c x.snd)) (0 : Int) + (List.getD x.fst (0 : Nat) (vc91_0 c f win)).snd.snd.snd.snd ≤ (9223372036854775807 : Int)) ∧ (0 : Int) ≤ (↑(mpIdx (vc91_1 c f win) ((List.getD x.fst (0 : Nat) (vc91_0 c f win)).fst, ByteArray.mk (Array.mk [(66 : UInt8)]), (0 : Int)) (sumsM c x.snd)) : Int) ∧ (↑(mpIdx (vc91_1 c f win) ((List.getD x.fst (0 : Nat) (vc91_0 c f win)).fst, ByteArray.mk (Array.mk [(66 : UInt8)]), (0 : Int)) (sumsM c x.snd)) : Int) < (↑(List.length (mpSet (vc91_1 c f win) ((List.getD x.fst (0 : Nat) (vc91_0 c f win)).fst, ByteArray.mk (Array.mk [(66 : UInt8)]), (0 : Int)) (Option.getD (mpGet (vc91_1 c f win) ((List.getD x.fst (0 : Nat) (vc91_0 c f win)).fst, ByteArray.mk (Array.mk [(66 : UInt8)]), (0 : Int)) (sumsM c x.snd)) (0 : Int)) (sumsM c x.snd))) : Int)) ∧ (false = true → ∃ (x_1 : List Nat), (mpPut (Option.getD (mpGet (vc91_1 c f win) ((List.getD x.fst (0 : Nat) (vc91_0 c f win)).fst, ByteArray.mk (Array.mk [(66 : UInt8)]), (0 : Int)) (sumsM c x.snd)) (0 : Int) + (List.getD x.fst (0 : Nat) (vc91_0 c f win)).snd.snd.snd.snd) (mpSet (vc91_1 c f win) ((List.getD x.fst (0 : Nat) (vc91_0 c f win)).fst, ByteArray.mk (Array.mk [(66 : UInt8)]), (0 : Int)) (Option.getD (mpGet (vc91_1 c f win) ((List.getD x.fst (0 : Nat) (vc91_0 c f win)).fst, ByteArray.mk (Array.mk [(66 : UInt8)]), (0 : Int)) (sumsM c x.snd)) (0 : Int)) (sumsM c x.snd)) (mpIdx (vc91_1 c f win) ((List.getD x.fst (0 : Nat) (vc91_0 c f win)).fst, ByteArray.mk (Array.mk [(66 : UInt8)]), (0 : Int)) (sumsM c x.snd)) = sumsM c (wavesS c f win) ∧ [] = x_1 ∧ mpPut (Option.getD (mpGet (vc91_1 c f win) ((List.getD x.fst (0 : Nat) (vc91_0 c f win)).fst, ByteArray.mk (Array.mk [(66 : UInt8)]), (0 : Int)) (sumsM c x.snd)) (0 : Int) + (List.getD x.fst (0 : Nat) (vc91_0 c f win)).snd.snd.snd.snd) (mpSet (vc91_1 c f win) ((List.getD x.fst (0 : Nat) (vc91_0 c f win)).fst, ByteArray.mk (Array.mk [(66 : UInt8)]), (0 : Int)) (Option.getD (mpGet (vc91_1 c f win) ((List.getD x.fst (0 : Nat) (vc91_0 c f win)).fst, ByteArray.mk (Array.mk [(66 : UInt8)]), (0 : Int)) (sumsM c x.snd)) (0 : Int)) (sumsM c x.snd)) (mpIdx (vc91_1 c f win) ((List.getD x.fst (0 : Nat) (vc91_0 c f win)).fst, ByteArray.mk (Array.mk [(66 : UInt8)]), (0 : Int)) (sumsM c x.snd)) = sumsM c (wavesS c f win) ∧ List.length (seenA (sumsM c (wavesS c f win)) x_1) = (0 : Nat)) ∧ (List.Nodup x_1 ∧ ∀ (p : Nat), p ∈ x_1 → p < List.length (sumsM c (wavesS c f win))) ∧ ∀ (x : List Nat), (List.Nodup x ∧ ∀ (p : Nat), p ∈ x → p < List.length (sumsM c (wavesS c f win))) → sumsM c (wavesS c f win) = sumsM c (wavesS c f win) ∧ (∀ (p : Nat), p < List.length (sumsM c (wavesS c f win)) → (p ∈ x → False) → (true = true → (sumsM c (wavesS c f win) = sumsM c (wavesS c f win) ∧ (x ++ [p] = [] → False) ∧ List.getLastD (x ++ [p]) (0 : Nat) < List.length (sumsM c (wavesS c f win))) ∧ (List.length (seenA (sumsM c (wavesS c f win)) x) + (1 : Nat)) * (32 : Nat) ≤ (140737488355328 : Nat) ∧ ∃ (y : List Nat), (sumsM c (wavesS c f win) = sumsM c (wavesS c f win) ∧ x ++ [p] = y ∧ sumsM c (wavesS c f win) = sumsM c (wavesS c f win) ∧ seenA (sumsM c (wavesS c f win)) x ++ [((List.getD (sumsM c (wavesS c f win)) (List.getLastD (x ++ [p]) (0 : Nat)) (vc91_2 c f win)).fst.fst, (List.getD (sumsM c (wavesS c f win)) (List.getLastD (x ++ [p]) (0 : Nat)) (vc91_2 c f win)).fst.snd.fst, (List.getD (sumsM c (wavesS c f win)) (List.getLastD (x ++ [p]) (0 : Nat)) (vc91_2 c f win)).snd)] = seenA (sumsM c (wavesS c f win)) y) ∧ (List.Nodup y ∧ ∀ (p : Nat), p ∈ y → p < List.length (sumsM c (wavesS c f win))) ∧ List.length (sumsM c (wavesS c f win)) - List.length y < List.length (sumsM c (wavesS c f win)) - List.length x) ∧ (true = false → preA (seenA (sumsM c (wavesS c f win)) x) ∧ true = true ∧ sortA (seenA (sumsM c (wavesS c f win)) x) = arrS c f win)) ∧ ((∀ (p : Nat), p < List.length (sumsM c (wavesS c f win)) → p ∈ x) → (false = true → (sumsM c (wavesS c f win) = sumsM c (wavesS c f win) ∧ (x = [] → False) ∧ List.getLastD x (0 : Nat) < List.length (sumsM c (wavesS c f win))) ∧ (List.length (seenA (sumsM c (wavesS c f win)) x) + (1 : Nat)) * (32 : Nat) ≤ (140737488355328 : Nat) ∧ ∃ (y : List Nat), (sumsM c (wavesS c f win) = sumsM c (wavesS c f win) ∧ x = y ∧ sumsM c (wavesS c f win) = sumsM c (wavesS c f win) ∧ seenA (sumsM c (wavesS c f win)) x ++ [((List.getD (sumsM c (wavesS c f win)) (List.getLastD x (0 : Nat)) (vc91_2 c f win)).fst.fst, (List.getD (sumsM c (wavesS c f win)) (List.getLastD x (0 : Nat)) (vc91_2 c f win)).fst.snd.fst, (List.getD (sumsM c (wavesS c f win)) (List.getLastD x (0 : Nat)) (vc91_2 c f win)).snd)] = seenA (sumsM c (wavesS c f win)) y) ∧ (List.Nodup y ∧ ∀ (p : Nat), p ∈ y → p < List.length (sumsM c (wavesS c f win))) ∧ List.length (sumsM c (wavesS c f win)) - List.length y < List.length (sumsM c (wavesS c f win)) - List.length x) ∧ (false = false → preA (seenA (sumsM c (wavesS c f win)) x) ∧ true = true ∧ sortA (seenA (sumsM c (wavesS c f win)) x) = arrS c f win))) ∧ (false = false → (cabS (vc91_3 c f win) = (0 : Int) ∧ wvC (vc91_3 c f win) ((List.getD x.fst (0 : Nat) (vc91_0 c f win)).fst, (List.getD x.fst (0 : Nat) (vc91_0 c f win)).snd.fst, (List.getD x.fst (0 : Nat) (vc91_0 c f win)).snd.snd.fst, (List.getD x.fst (0 : Nat) (vc91_0 c f win)).snd.snd.snd.fst, (List.getD x.fst (0 : Nat) (vc91_0 c f win)).snd.snd.snd.snd)) ∧ (List.length (List.drop (1 : Nat) x.fst) + List.length (childS (vc91_3 c f win) ((List.getD x.fst (0 : Nat) (vc91_0 c f win)).fst, (List.getD x.fst (0 : Nat) (vc91_0 c f win)).snd.fst, (List.getD x.fst (0 : Nat) (vc91_0 c f win)).snd.snd.fst, (List.getD x.fst (0 : Nat) (vc91_0 c f win)).snd.snd.snd.fst, (List.getD x.fst (0 : Nat) (vc91_0 c f win)).snd.snd.snd.snd))) * (40 : Nat) ≤ (140737488355328 : Nat) ∧ ∃ (y : List (Int × Int × Bool × Int × Int) × List (Int × Int × Bool × Int × Int)), (c.1 = c.fst ∧ c.snd.1 = c.snd.fst ∧ c.snd.snd.fst = c.snd.snd.fst ∧ c.snd.snd.snd = c.snd.snd.snd ∧ mpPut (Option.getD (mpGet (vc91_1 c f win) ((List.getD x.fst (0 : Nat) (vc91_0 c f win)).fst, ByteArray.mk (Array.mk [(66 : UInt8)]), (0 : Int)) (sumsM c x.snd)) (0 : Int) + (List.getD x.fst (0 : Nat) (vc91_0 c f win)).snd.snd.snd.snd) (mpSet (vc91_1 c f win) ((List.getD x.fst (0 : Nat) (vc91_0 c f win)).fst, ByteArray.mk (Array.mk [(66 : UInt8)]), (0 : Int)) (Option.getD (mpGet (vc91_1 c f win) ((List.getD x.fst (0 : Nat) (vc91_0 c f win)).fst, ByteArray.mk (Array.mk [(66 : UInt8)]), (0 : Int)) (sumsM c x.snd)) (0 : Int)) (sumsM c x.snd)) (mpIdx (vc91_1 c f win) ((List.getD x.fst (0 : Nat) (vc91_0 c f win)).fst, ByteArray.mk (Array.mk [(66 : UInt8)]), (0 : Int)) (sumsM c x.snd)) = sumsM c y.snd ∧ c.snd.snd.fst = c.snd.snd.fst ∧ c.snd.snd.snd = c.snd.snd.snd ∧ f.snd.snd.fst + win = f.snd.snd.fst + win ∧ List.drop (1 : Nat) x.fst ++ childS (vc91_3 c f win) ((List.getD x.fst (0 : Nat) (vc91_0 c f win)).fst, (List.getD x.fst (0 : Nat) (vc91_0 c f win)).snd.fst, (List.getD x.fst (0 : Nat) (vc91_0 c f win)).snd.snd.fst, (List.getD x.fst (0 : Nat) (vc91_0 c f win)).snd.snd.snd.fst, (List.getD x.fst (0 : Nat) (vc91_0 c f win)).snd.snd.snd.snd) = y.fst) ∧ ((∀ (w : Stp), w ∈ y.fst → wvH c w) ∧ (∀ (w : Stp), w ∈ y.snd → wvH c w) ∧ fltV c f ∧ ((0 : Int) ≤ win ∧ win ≤ (1000 : Int)) ∧ y.snd ++ runS c (f.snd.snd.fst + win) y.fst = wavesS c f win ∧ List.length y.snd + wtL y.fst ≤ (4374 : Nat)) ∧ wtL y.fst < wtL x.fst)) ∧ (((List.getD x.fst (0 : Nat) (vc91_0 c f win)).snd.fst == (↑(List.length c.fst) : Int)) = false → (false = true → ∃ (x_1 : List Nat), (sumsM c x.snd = sumsM c (wavesS c f win) ∧ [] = x_1 ∧ sumsM c x.snd = sumsM c (wavesS c f win) ∧ List.length (seenA (sumsM c (wavesS c f win)) x_1) = (0 : Nat)) ∧ (List.Nodup x_1 ∧ ∀ (p : Nat), p ∈ x_1 → p < List.length (sumsM c (wavesS c f win))) ∧ ∀ (x : List Nat), (List.Nodup x ∧ ∀ (p : Nat), p ∈ x → p < List.length (sumsM c (wavesS c f win))) → sumsM c (wavesS c f win) = sumsM c (wavesS c f win) ∧ (∀ (p : Nat), p < List.length (sumsM c (wavesS c f win)) → (p ∈ x → False) → (true = true → (sumsM c (wavesS c f win) = sumsM c (wavesS c f win) ∧ (x ++ [p] = [] → False) ∧ List.getLastD (x ++ [p]) (0 : Nat) < List.length (sumsM c (wavesS c f win))) ∧ (List.length (seenA (sumsM c (wavesS c f win)) x) + (1 : Nat)) * (32 : Nat) ≤ (140737488355328 : Nat) ∧ ∃ (y : List Nat), (sumsM c (wavesS c f win) = sumsM c (wavesS c f win) ∧ x ++ [p] = y ∧ sumsM c (wavesS c f win) = sumsM c (wavesS c f win) ∧ seenA (sumsM c (wavesS c f win)) x ++ [((List.getD (sumsM c (wavesS c f win)) (List.getLastD (x ++ [p]) (0 : Nat)) (vc91_2 c f win)).fst.fst, (List.getD (sumsM c (wavesS c f win)) (List.getLastD (x ++ [p]) (0 : Nat)) (vc91_2 c f win)).fst.snd.fst, (List.getD (sumsM c (wavesS c f win)) (List.getLastD (x ++ [p]) (0 : Nat)) (vc91_2 c f win)).snd)] = seenA (sumsM c (wavesS c f win)) y) ∧ (List.Nodup y ∧ ∀ (p : Nat), p ∈ y → p < List.length (sumsM c (wavesS c f win))) ∧ List.length (sumsM c (wavesS c f win)) - List.length y < List.length (sumsM c (wavesS c f win)) - List.length x) ∧ (true = false → preA (seenA (sumsM c (wavesS c f win)) x) ∧ true = true ∧ sortA (seenA (sumsM c (wavesS c f win)) x) = arrS c f win)) ∧ ((∀ (p : Nat), p < List.length (sumsM c (wavesS c f win)) → p ∈ x) → (false = true → (sumsM c (wavesS c f win) = sumsM c (wavesS c f win) ∧ (x = [] → False) ∧ List.getLastD x (0 : Nat) < List.length (sumsM c (wavesS c f win))) ∧ (List.length (seenA (sumsM c (wavesS c f win)) x) + (1 : Nat)) * (32 : Nat) ≤ (140737488355328 : Nat) ∧ ∃ (y : List Nat), (sumsM c (wavesS c f win) = sumsM c (wavesS c f win) ∧ x = y ∧ sumsM c (wavesS c f win) = sumsM c (wavesS c f win) ∧ seenA (sumsM c (wavesS c f win)) x ++ [((List.getD (sumsM c (wavesS c f win)) (List.getLastD x (0 : Nat)) (vc91_2 c f win)).fst.fst, (List.getD (sumsM c (wavesS c f win)) (List.getLastD x (0 : Nat)) (vc91_2 c f win)).fst.snd.fst, (List.getD (sumsM c (wavesS c f win)) (List.getLastD x (0 : Nat)) (vc91_2 c f win)).snd)] = seenA (sumsM c (wavesS c f win)) y) ∧ (List.Nodup y ∧ ∀ (p : Nat), p ∈ y → p < List.length (sumsM c (wavesS c f win))) ∧ List.length (sumsM c (wavesS c f win)) - List.length y < List.length (sumsM c (wavesS c f win)) - List.length x) ∧ (false = false → preA (seenA (sumsM c (wavesS c f win)) x) ∧ true = true ∧ sortA (seenA (sumsM c (wavesS c f win)) x) = arrS c f win))) ∧ (false = false → (cabS (vc91_3 c f win) = (0 : Int) ∧ wvC (vc91_3 c f win) ((List.getD x.fst (0 : Nat) (vc91_0 c f win)).fst, (List.getD x.fst (0 : Nat) (vc91_0 c f win)).snd.fst, (List.getD x.fst (0 : Nat) (vc91_0 c f win)).snd.snd.fst, (List.getD x.fst (0 : Nat) (vc91_0 c f win)).snd.snd.snd.fst, (List.getD x.fst (0 : Nat) (vc91_0 c f win)).snd.snd.snd.snd)) ∧ (List.length (List.drop (1 : Nat) x.fst) + List.length (childS (vc91_3 c f win) ((List.getD x.fst (0 : Nat) (vc91_0 c f win)).fst, (List.getD x.fst (0 : Nat) (vc91_0 c f win)).snd.fst, (List.getD x.fst (0 : Nat) (vc91_0 c f win)).snd.snd.fst, (List.getD x.fst (0 : Nat) (vc91_0 c f win)).snd.snd.snd.fst, (List.getD x.fst (0 : Nat) (vc91_0 c f win)).snd.snd.snd.snd))) * (40 : Nat) ≤ (140737488355328 : Nat) ∧ ∃ (y : List (Int × Int × Bool × Int × Int) × List (Int × Int × Bool × Int × Int)), (c.1 = c.fst ∧ c.snd.1 = c.snd.fst ∧ c.snd.snd.fst = c.snd.snd.fst ∧ c.snd.snd.snd = c.snd.snd.snd ∧ sumsM c x.snd = sumsM c y.snd ∧ c.snd.snd.fst = c.snd.snd.fst ∧ c.snd.snd.snd = c.snd.snd.snd ∧ f.snd.snd.fst + win = f.snd.snd.fst + win ∧ List.drop (1 : Nat) x.fst ++ childS (vc91_3 c f win) ((List.getD x.fst (0 : Nat) (vc91_0 c f win)).fst, (List.getD x.fst (0 : Nat) (vc91_0 c f win)).snd.fst, (List.getD x.fst (0 : Nat) (vc91_0 c f win)).snd.snd.fst, (List.getD x.fst (0 : Nat) (vc91_0 c f win)).snd.snd.snd.fst, (List.getD x.fst (0 : Nat) (vc91_0 c f win)).snd.snd.snd.snd) = y.fst) ∧ ((∀ (w : Stp), w ∈ y.fst → wvH c w) ∧ (∀ (w : Stp), w ∈ y.snd → wvH c w) ∧ fltV c f ∧ ((0 : Int) ≤ win ∧ win ≤ (1000 : Int)) ∧ y.snd ++ runS c (f.snd.snd.fst + win) y.fst = wavesS c f win ∧ List.length y.snd + wtL y.fst ≤ (4374 : Nat)) ∧ wtL y.fst < wtL x.fst))))) ∧ (decide ((0 : Int) < (↑(List.length x.fst) : Int)) = false → ∃ (x_1 : List Nat), (sumsM c x.snd = sumsM c (wavesS c f win) ∧ [] = x_1 ∧ sumsM c x.snd = sumsM c (wavesS c f win) ∧ List.length (seenA (sumsM c (wavesS c f win)) x_1) = (0 : Nat)) ∧ (List.Nodup x_1 ∧ ∀ (p : Nat), p ∈ x_1 → p < List.length (sumsM c (wavesS c f win))) ∧ ∀ (x : List Nat), (List.Nodup x ∧ ∀ (p : Nat), p ∈ x → p < List.length (sumsM c (wavesS c f win))) → sumsM c (wavesS c f win) = sumsM c (wavesS c f win) ∧ (∀ (p : Nat), p < List.length (sumsM c (wavesS c f win)) → (p ∈ x → False) → (true = true → (sumsM c (wavesS c f win) = sumsM c (wavesS c f win) ∧ (x ++ [p] = [] → False) ∧ List.getLastD (x ++ [p]) (0 : Nat) < List.length (sumsM c (wavesS c f win))) ∧ (List.length (seenA (sumsM c (wavesS c f win)) x) + (1 : Nat)) * (32 : Nat) ≤ (140737488355328 : Nat) ∧ ∃ (y : List Nat), (sumsM c (wavesS c f win) = sumsM c (wavesS c f win) ∧ x ++ [p] = y ∧ sumsM c (wavesS c f win) = sumsM c (wavesS c f win) ∧ seenA (sumsM c (wavesS c f win)) x ++ [((List.getD (sumsM c (wavesS c f win)) (List.getLastD (x ++ [p]) (0 : Nat)) (vc91_2 c f win)).fst.fst, (List.getD (sumsM c (wavesS c f win)) (List.getLastD (x ++ [p]) (0 : Nat)) (vc91_2 c f win)).fst.snd.fst, (List.getD (sumsM c (wavesS c f win)) (List.getLastD (x ++ [p]) (0 : Nat)) (vc91_2 c f win)).snd)] = seenA (sumsM c (wavesS c f win)) y) ∧ (List.Nodup y ∧ ∀ (p : Nat), p ∈ y → p < List.length (sumsM c (wavesS c f win))) ∧ List.length (sumsM c (wavesS c f win)) - List.length y < List.length (sumsM c (wavesS c f win)) - List.length x) ∧ (true = false → preA (seenA (sumsM c (wavesS c f win)) x) ∧ true = true ∧ sortA (seenA (sumsM c (wavesS c f win)) x) = arrS c f win)) ∧ ((∀ (p : Nat), p < List.length (sumsM c (wavesS c f win)) → p ∈ x) → (false = true → (sumsM c (wavesS c f win) = sumsM c (wavesS c f win) ∧ (x = [] → False) ∧ List.getLastD x (0 : Nat) < List.length (sumsM c (wavesS c f win))) ∧ (List.length (seenA (sumsM c (wavesS c f win)) x) + (1 : Nat)) * (32 : Nat) ≤ (140737488355328 : Nat) ∧ ∃ (y : List Nat), (sumsM c (wavesS c f win) = sumsM c (wavesS c f win) ∧ x = y ∧ sumsM c (wavesS c f win) = sumsM c (wavesS c f win) ∧ seenA (sumsM c (wavesS c f win)) x ++ [((List.getD (sumsM c (wavesS c f win)) (List.getLastD x (0 : Nat)) (vc91_2 c f win)).fst.fst, (List.getD (sumsM c (wavesS c f win)) (List.getLastD x (0 : Nat)) (vc91_2 c f win)).fst.snd.fst, (List.getD (sumsM c (wavesS c f win)) (List.getLastD x (0 : Nat)) (vc91_2 c f win)).snd)] = seenA (sumsM c (wavesS c f win)) y) ∧ (List.Nodup y ∧ ∀ (p : Nat), p ∈ y → p < List.length (sumsM c (wavesS c f win))) ∧ List.length (sumsM c (wavesS c f win)) - List.length y < List.length (sumsM c (wavesS c f win)) - List.length x) ∧ (false = false → preA (seenA (sumsM c (wavesS c f win)) x) ∧ true = true ∧ sortA (seenA (sumsM c (wavesS c f win)) x) = arrS c f win)))) := by
 intros
 kernel_rfl
theorem wp91 (c : Cab) (f : Flt) (win : Int) : wpFG Tryz.prog G64 (annAr3 (sumsM c (wavesS c f win))) (fun g id => if g = 142 then some (annAr c f win) else none) (Sx.look ([(87, Tryz.f87), (142, Tryz.f142)] : List (Nat × Func))) Tryz.f91 cArr (c, f, win, ()) := by
 refine (vc91 c f win).mpr ?_
 delta vc91_0 vc91_1 vc91_2 vc91_3
 intro h1
 obtain ⟨ef, hw⟩ := winS_V h1
 obtain ⟨hc, hfv⟩ := fltS_V ef
 have hv := hfv.1
 obtain ⟨_, g1, g2, g3, g4, g5⟩ := id hfv
 have b := hv.2.2.1 _ (getD_mem (d := (0, 0)) (l := c.1) (k := f.1.toNat) (by omega))
 have hi := initS_H hfv
 have hlen := hv.2.1
 refine ⟨⟨fun k k' => (by simp only [Bool.and_true]; rfl), fun _ => rfl⟩, by omega, by omega, ⟨g1, g1, by omega⟩, ⟨by omega, by omega, by omega⟩, (initS c f, []), ⟨rfl, rfl, rfl, rfl, rfl, rfl, rfl, rfl, rfl⟩, ⟨hi, fun w hw => (by simp at hw), hfv, hw, rfl, by show 0 + wtL (initS c f) ≤ 4374; rw [initS_wt]; omega⟩, fun p hp => ?_⟩
 obtain ⟨o, out⟩ := p
 obtain ⟨p1, p0, _, _, p2, p3⟩ := hp
 replace p2 : out ++ runS c (f.2.2.1 + win) o = wavesS c f win := p2
 replace p3 : out.length + wtL o ≤ 4374 := p3
 replace p0 : ∀ w ∈ out, wvH c w := p0
 have hm := sumsM_ok p0
 cases o with
 | nil =>
  refine ⟨fun h1 => by simp at h1, fun h1 => ?_⟩
  have p2 : out = wavesS c f win := by rw [← p2]; exact (List.append_nil out).symm
  have hm : okM (sumsM c (wavesS c f win)) out.length := by rw [← p2]; exact hm
  have p3 : out.length ≤ 4374 := by omega
  have eA : arrS c f win = sortA ((sumsM c (wavesS c f win)).map rowA) := rfl
  refine ⟨[], ⟨by rw [← p2], rfl, by rw [← p2], rfl⟩, ⟨List.nodup_nil, fun p hp => by simp at hp⟩, ?_⟩
  rw [eA]
  generalize sumsM c (wavesS c f win) = m at hm ⊢
  intro seen hs
  have hls := nodup_len m.length hs.1 hs.2
  have hlm := hm.1
  have hl2 : (seenA m seen).length = seen.length := by simp [seenA]
  refine ⟨rfl, fun p hp hps => ⟨fun _ => ?_, fun h => (by cases h)⟩, fun hall => ⟨fun h => (by cases h), fun _ => ?_⟩⟩
  ·have hl : (seen ++ [p]).getLastD 0 = p := by simp [List.getLastD_eq_getLast?]
   have hn : (seen ++ [p]).Nodup := List.nodup_append.2 ⟨hs.1, by simp, fun x hx y hy => by
    have : y = p := by simpa using hy
    subst this
    rintro rfl
    exact hps hx⟩
   have ha : ∀ q ∈ seen ++ [p], q < m.length := fun q hq => by
    rcases List.mem_append.1 hq with hq | hq
    ·exact hs.2 q hq
    ·have : q = p := by simpa using hq
     subst this; exact hp
   have hlen2 := nodup_len _ hn ha
   rw [List.length_append] at hlen2
   have hlen2 : seen.length + 1 ≤ m.length := hlen2
   rw [hl, hl2]
   refine ⟨⟨rfl, by simp, hp⟩, by omega, seen ++ [p], ⟨rfl, rfl, rfl, ?_⟩, ⟨hn, ha⟩, by rw [List.length_append]; simp; omega⟩
   simp only [seenA, List.map_append, List.map_cons, List.map_nil]
   rfl
  ·have hp := seenA_perm hs.1 hs.2 hall
   have hk := rowA_ne hm
   refine ⟨⟨keyNe_perm hp.symm hk, by omega⟩, rfl, ?_⟩
   exact srtA_unique ((sortA_perm _).trans (hp.trans (sortA_perm _).symm)) (sortA_sorted (keyNe_perm hp.symm hk)) (sortA_sorted hk)
 | cons w r =>
  have hw' : wvH c w := p1 w (by simp)
  have hr := runS_cons (last := f.2.2.1 + win) hv p1
  have hc' := child_wt (c := c) hw'.1
  have hp := wt_pos w
  have hl1 := len_wt r
  have hl2 := child_len c w
  simp only [wtL] at p3
  rw [hr] at p2
  refine ⟨fun h1 => ?_, fun h1 => by simp at h1⟩
  have l1 : 0 < ((w :: r).length : Int) := by simp only [List.length_cons]; omega
  refine ⟨⟨⟨by omega, l1⟩, by omega, l1⟩, ⟨by omega, l1⟩, fun h2 => ?_, fun h2 => ?_⟩
  ·have h2 : f.2.2.1 + win < w.1 := of_decide_eq_true h2
   rw [if_pos h2] at p2
   refine ⟨(r, out), ⟨rfl, rfl, rfl, rfl, rfl, rfl, rfl, rfl, rfl⟩, ⟨fun x hx => p1 x (by simp [hx]), p0, hfv, hw, p2, ?_⟩, ?_⟩
   ·show out.length + wtL r ≤ 4374
    omega
   ·show wtL r < wtL (w :: r)
    simp only [wtL]; omega
  ·have h2 : ¬ f.2.2.1 + win < w.1 := of_decide_eq_false h2
   rw [if_neg h2] at p2
   have f1 : (r.length + (childS c w).length) * 40 ≤ 140737488355328 := by omega
   have f2 : (out ++ [w]) ++ runS c (f.2.2.1 + win) (r ++ childS c w) = wavesS c f win := by rw [List.append_assoc]; exact p2
   have f3 : (out ++ [w]).length + wtL (r ++ childS c w) ≤ 4374 := by rw [wtL_append, List.length_append, List.length_singleton]; omega
   have f4 : wtL (r ++ childS c w) < wtL (w :: r) := by rw [wtL_append]; simp only [wtL]; omega
   have f5 : ∀ x ∈ out ++ [w], wvH c x := fun x hx => by
    rcases List.mem_append.1 hx with hx | hx
    ·exact p0 x hx
    ·simp only [List.mem_singleton] at hx; rw [hx]; exact hw'
   have hB : -17179869184 ≤ w.2.2.2.2 ∧ w.2.2.2.2 ≤ 17179869184 := by
    obtain ⟨a1, _, _, a4, a5⟩ := hw'
    have := hbN_le (h := w.2.2.2.1.toNat) (by omega)
    omega
   refine ⟨fun e0 => ?_, fun e0 => ⟨fun e1 => ?_, fun e1 => ?_⟩⟩
   ·have e0 : w.2.1 = 0 := eq_of_beq e0
    have hg := get_bd hm (w.1, sA, 0)
    refine ⟨⟨?_, ?_, Int.natCast_nonneg _, Int.ofNat_lt.2 (mp_idx_lt (w.1, sA, 0) _ _)⟩, fun h => (by cases h), fun _ => ⟨⟨hc, wvH_C hv hw'⟩, f1, (r ++ childS c w, out ++ [w]), ⟨rfl, rfl, rfl, rfl, ?_, rfl, rfl, rfl, rfl⟩, ⟨app_H hv p1, f5, hfv, hw, f2, f3⟩, f4⟩⟩
    ·exact mp_get_set0 (w.1, sA, 0) _
    ·show -9223372036854775808 ≤ (mpGet sArr (w.1, sA, 0) (sumsM c out)).getD 0 + w.2.2.2.2 ∧ (mpGet sArr (w.1, sA, 0) (sumsM c out)).getD 0 + w.2.2.2.2 ≤ 9223372036854775807
     omega
    ·rw [sumsM_snoc]
     unfold hitM addM
     rw [if_pos e0]
     exact mp_put_set (w.1, sA, 0) _ _ _
   ·have e0 : ¬ w.2.1 = 0 := by
     have e0 : (w.2.1 == 0) = false := e0
     simpa using e0
    have e1 : w.2.1 = c.1.length := eq_of_beq e1
    have hg := get_bd hm (w.1, sB, 0)
    refine ⟨⟨?_, ?_, Int.natCast_nonneg _, Int.ofNat_lt.2 (mp_idx_lt (w.1, sB, 0) _ _)⟩, fun h => (by cases h), fun _ => ⟨⟨hc, wvH_C hv hw'⟩, f1, (r ++ childS c w, out ++ [w]), ⟨rfl, rfl, rfl, rfl, ?_, rfl, rfl, rfl, rfl⟩, ⟨app_H hv p1, f5, hfv, hw, f2, f3⟩, f4⟩⟩
    ·exact mp_get_set0 (w.1, sB, 0) _
    ·show -9223372036854775808 ≤ (mpGet sArr (w.1, sB, 0) (sumsM c out)).getD 0 + w.2.2.2.2 ∧ (mpGet sArr (w.1, sB, 0) (sumsM c out)).getD 0 + w.2.2.2.2 ≤ 9223372036854775807
     omega
    ·rw [sumsM_snoc]
     unfold hitM addM
     rw [if_neg e0, if_pos e1]
     exact mp_put_set (w.1, sB, 0) _ _ _
   ·have e0 : ¬ w.2.1 = 0 := by
     have e0 : (w.2.1 == 0) = false := e0
     simpa using e0
    have e1 : ¬ w.2.1 = c.1.length := by
     have e1 : (w.2.1 == (c.1.length : Int)) = false := e1
     simpa using e1
    refine ⟨fun h => (by cases h), fun _ => ⟨⟨hc, wvH_C hv hw'⟩, f1, (r ++ childS c w, out ++ [w]), ⟨rfl, rfl, rfl, rfl, ?_, rfl, rfl, rfl, rfl⟩, ⟨app_H hv p1, f5, hfv, hw, f2, f3⟩, f4⟩⟩
    rw [sumsM_snoc]
    unfold hitM
    rw [if_neg e0, if_neg e1]
theorem ok91 [Sx.Dr] : Ok Tryz.prog 91 cArr := ok_of_wpG mixed g64 (by kernel_rfl) (by kernel_rfl) (lib_ok (List.forall_mem_cons.2 ⟨by kernel_rfl, List.forall_mem_cons.2 ⟨by kernel_rfl, by simp⟩⟩)) (fun xx => annAr3 (sumsM xx.1 (wavesS xx.1 xx.2.1 xx.2.2.1))) (fun xx => fun g id => if g = 142 then some (annAr xx.1 xx.2.1 xx.2.2.1) else none) fun xx => wp91 xx.1 xx.2.1 xx.2.2.1
abbrev G65 : Gam := (91, cArr) :: G64
theorem g65 [Sx.Dr] : GamOk Tryz.prog G65 := .cons ok91 g64
def arrP (c : Cab) (f : Flt) (win : Int) : List Arr := if winS c f win = 0 then arrS c f win else []
def cArrivals : Con := { args := [aC, aF, aI], ress := [(false, .list 107 sArr), I], owns := [], pre := fun (c, f, win, _) => [c.1.length ≤ 1000000, c.2.1.length ≤ 1000000], spec := fun (c, f, win, _) => (arrP c f win, winS c f win, ()) }
theorem vc21 : ∀ (c : Cab) (f : Flt) (win : Int), wpF Tryz.prog G65 (na ()) Tryz.f21 cArrivals (c, f, win, ()) = (List.length c.fst ≤ (1000000 : Nat) → List.length c.snd.fst ≤ (1000000 : Nat) → (List.length c.1 ≤ (1000000 : Nat) ∧ List.length c.snd.1 ≤ (1000000 : Nat)) ∧ ((winS (c.1, c.snd.1, c.snd.snd.fst, c.snd.snd.snd) (f.fst, f.snd.fst, f.snd.snd.fst, f.snd.snd.snd) win != (0 : Int)) = true → [] = arrP c f win ∧ winS (c.1, c.snd.1, c.snd.snd.fst, c.snd.snd.snd) (f.fst, f.snd.fst, f.snd.snd.fst, f.snd.snd.snd) win = winS c f win) ∧ ((winS (c.1, c.snd.1, c.snd.snd.fst, c.snd.snd.snd) (f.fst, f.snd.fst, f.snd.snd.fst, f.snd.snd.snd) win != (0 : Int)) = false → winS (c.1, c.snd.1, c.snd.snd.fst, c.snd.snd.snd) (f.fst, f.snd.fst, f.snd.snd.fst, f.snd.snd.snd) win = (0 : Int) ∧ arrS (c.1, c.snd.1, c.snd.snd.fst, c.snd.snd.snd) (f.fst, f.snd.fst, f.snd.snd.fst, f.snd.snd.snd) win = arrP c f win ∧ (0 : Int) = winS c f win)) := by
 intros
 kernel_rfl
theorem wp21 (c : Cab) (f : Flt) (win : Int) : wpF Tryz.prog G65 (na ()) Tryz.f21 cArrivals (c, f, win, ()) := by
 refine (vc21 c f win).mpr ?_
 intro h1 h2
 refine ⟨⟨h1, h2⟩, fun e => ?_, fun e => ?_⟩
 ·have e : ¬ winS c f win = 0 := bne_zero.1 e
  unfold arrP; rw [if_neg e]; exact ⟨rfl, rfl⟩
 ·have e : winS c f win = 0 := bne_zero'.1 e
  unfold arrP; rw [if_pos e]; exact ⟨e, rfl, e.symm⟩
theorem ok21 [Sx.Dr] : Ok Tryz.prog 21 cArrivals := ok_of_wp mixed g65 (by kernel_rfl) (by kernel_rfl) na fun xx => wp21 xx.1 xx.2.1 xx.2.2.1
abbrev G66 : Gam := (21, cArrivals) :: G65
theorem g66 [Sx.Dr] : GamOk Tryz.prog G66 := .cons ok21 g65
set_option maxHeartbeats 20000000
set_option pp.deepTerms true
set_option pp.maxSteps 1000000
def endW (w : Stp) : ByteArray := if w.2.1 = 0 then sA else sB
def lastA (o : List Arr) : Arr := o.getD (o.length - 1) (0, ⟨#[]⟩, 0)
def stepR' (n : Int) (o : List Arr) (w : Stp) : List Arr :=
 if w.2.1 ≠ 0 ∧ w.2.1 ≠ n then o else if o ≠ [] ∧ (lastA o).1 = w.1 ∧ (lastA o).2.1 = endW w then o.set (o.length - 1) (w.1, endW w, (lastA o).2.2 + w.2.2.2.2) else o ++ [(w.1, endW w, w.2.2.2.2)]
def refA (c : Cab) (l : List Stp) : List Arr := l.foldl (stepR' c.1.length) []
abbrev dA : Arr := (0, ⟨⟨[]⟩⟩, 0)
theorem lastA_eq {o : List Arr} (h : o ≠ []) : o.getD ((o.length : Int) - 1).toNat dA = lastA o := by
 unfold lastA
 have : 0 < o.length := List.length_pos_iff.2 h
 rw [show ((o.length : Int) - 1).toNat = o.length - 1 by omega]
theorem condR {o : List Arr} {t : Int} {e : ByteArray} : (bif (bif decide (0 ≤ (o.length : Int) - 1) then ((o.getD ((o.length : Int) - 1).toNat dA).1 == t) else false) then ((o.getD ((o.length : Int) - 1).toNat dA).2.1.toList == e.toList) else false) = true ↔ o ≠ [] ∧ (lastA o).1 = t ∧ (lastA o).2.1 = e := by
 by_cases h : o = []
 ·subst h; simp
 ·have hp : 0 < o.length := List.length_pos_iff.2 h
  rw [decide_eq_true (by omega : 0 ≤ (o.length : Int) - 1), lastA_eq h]
  simp only [cond_true]
  cases h1 : ((lastA o).1 == t) with
  | false => simp at h1 ⊢; intro _ q; exact absurd q h1
  | true =>
   have h1 := eq_of_beq h1
   simp only [cond_true, beq_iff_eq]
   exact ⟨fun q => ⟨h, h1, ba_ext q⟩, fun q => by rw [q.2.2]⟩
theorem condR' {o : List Arr} {t : Int} {e : ByteArray} : (bif (bif decide (0 ≤ (o.length : Int) - 1) then ((o.getD ((o.length : Int) - 1).toNat dA).1 == t) else false) then ((o.getD ((o.length : Int) - 1).toNat dA).2.1.toList == e.toList) else false) = false ↔ ¬ (o ≠ [] ∧ (lastA o).1 = t ∧ (lastA o).2.1 = e) := by
 rw [← condR (o := o) (t := t) (e := e), Bool.not_eq_true]
theorem last_mem {o : List Arr} (h : o ≠ []) : lastA o ∈ o := by
 unfold lastA
 have : 0 < o.length := List.length_pos_iff.2 h
 exact getD_mem (by omega)
def okR (o : List Arr) (n : Nat) : Prop := o.length ≤ n ∧ ∀ a ∈ o, -(17179869184 * (n : Int)) ≤ a.2.2 ∧ a.2.2 ≤ 17179869184 * n
theorem stepR_ok {m : Int} {o : List Arr} {n : Nat} (h : okR o n) {w : Stp} (hw : -17179869184 ≤ w.2.2.2.2 ∧ w.2.2.2.2 ≤ 17179869184) : okR (stepR' m o w) (n + 1) := by
 obtain ⟨h1, h2⟩ := h
 unfold stepR'
 split
 ·exact ⟨by omega, fun a ha => by have := h2 a ha; omega⟩
 ·split
  ·rename_i hc
   have hb := h2 _ (last_mem hc.1)
   refine ⟨by simp; omega, fun a ha => ?_⟩
   rcases List.mem_or_eq_of_mem_set ha with ha | rfl
   ·have := h2 a ha; omega
   ·simp only; omega
  ·refine ⟨by simp; omega, fun a ha => ?_⟩
   rcases List.mem_append.1 ha with ha | ha
   ·have := h2 a ha; omega
   ·simp only [List.mem_singleton] at ha; subst ha; simp only; omega
theorem foldR_ok {m : Int} : ∀ {l : List Stp} {o : List Arr} {n : Nat}, okR o n → (∀ w ∈ l, -17179869184 ≤ w.2.2.2.2 ∧ w.2.2.2.2 ≤ 17179869184) → okR (l.foldl (stepR' m) o) (n + l.length)
 | [], _, _, h, _ => h
 | w :: r, o, n, h, hl => by
  have := foldR_ok (m := m) (l := r) (stepR_ok (m := m) h (hl w (by simp))) fun x hx => hl x (by simp [hx])
  rw [show n + 1 + r.length = n + (w :: r).length by simp only [List.length_cons]; omega] at this
  exact this
theorem wvH_ht {c : Cab} {w : Stp} (h : wvH c w) : -17179869184 ≤ w.2.2.2.2 ∧ w.2.2.2.2 ≤ 17179869184 := by
 obtain ⟨a1, _, _, a4, a5⟩ := h
 have := hbN_le (h := w.2.2.2.1.toNat) (by omega)
 omega
theorem refA_ok {c : Cab} {l : List Stp} (h : ∀ w ∈ l, wvH c w) : okR (refA c l) l.length := by
 have := foldR_ok (m := c.1.length) (l := l) (o := []) (n := 0) ⟨Nat.le_refl _, fun p hp => by simp at hp⟩ fun w hw => wvH_ht (h w hw)
 rwa [Nat.zero_add] at this
theorem refA_snoc (c : Cab) (l : List Stp) (w : Stp) : refA c (l ++ [w]) = stepR' c.1.length (refA c l) w := by
 unfold refA; rw [List.foldl_append]; rfl
theorem waves_H {c : Cab} {f : Flt} {win : Int} (h : fltV c f) : (∀ w ∈ wavesS c f win, wvH c w ∧ w.1 ≤ f.2.2.1 + win) ∧ (wavesS c f win).length ≤ 4374 :=
 ⟨bfs_H h.1 (initS_H h), by have := bfs_len (last := f.2.2.1 + win) h.1 (initS_H h) (Nat.le_refl _); rw [initS_wt] at this; exact this⟩
theorem runR_H {c : Cab} {f : Flt} {win : Int} (h : fltV c f) : (∀ w ∈ runR c f win, wvH c w ∧ w.1 ≤ f.2.2.1 + win) ∧ (runR c f win).length ≤ 4374 := by
 have hp : (runR c f win).Perm (wavesS c f win) := insAll_perm (wavesS c f win) []
 have hw := waves_H (win := win) h
 exact ⟨fun w hm => hw.1 w (hp.mem_iff.1 hm), by rw [hp.length_eq]; exact hw.2⟩
def cArrR : Con := { args := [aCR, aF, aI], ress := [(false, .list 130 sArr)], owns := [], pre := fun (c, f, win, _) => [winS c f win = 0], spec := fun (c, f, win, _) => (refA c (runR c f win), ()) }
abbrev annArR (c : Cab) (f : Flt) (win : Int) : Ann := { X := Nat, σ := fun k => ⟨6, [(3, .one (.ptr 2 0)), (7, .one (.sl 4)), (8, .one (.sl 5)), (9, .one (.int .i64 k))], [(0, .imm 102 sPt c.1), (1, .imm 3 sI c.2.1), (2, .box 26 [.sl 0, .sl 1, .int .i64 c.2.2.1, .int .i64 c.2.2.2]), (4, .own 130 sArr (refA c ((runR c f win).take k))), (5, .own 186 sStp (runR c f win))]⟩, inv := fun k => k ≤ (runR c f win).length, mu := fun k => (runR c f win).length - k }
def vc28_0 (c : Cab) (f : Flt) (win : Int) := ((0 : Int), (0 : Int), false, (0 : Int), (0 : Int))
def vc28_1 (c : Cab) (f : Flt) (win : Int) := ((0 : Int), ByteArray.mk (Array.mk []), (0 : Int))
theorem vc28 : ∀ (c : Cab) (f : Flt) (win : Int), wpF Tryz.prog G66 (ann0 (annArR c f win)) Tryz.f28 cArrR (c, f, win, ()) = (winS c f win = (0 : Int) → (fltS (c.1, c.snd.1, c.snd.snd.fst, c.snd.snd.snd) (f.fst, f.snd.fst, f.snd.snd.fst, f.snd.snd.snd) = (0 : Int) ∧ (0 : Int) ≤ win ∧ win ≤ (1000 : Int)) ∧ ∃ (x : Nat), ((0 : Int) = (↑x : Int) ∧ c.1 = c.fst ∧ c.snd.1 = c.snd.fst ∧ c.snd.snd.fst = c.snd.snd.fst ∧ c.snd.snd.snd = c.snd.snd.snd ∧ List.length (refA c (List.take x (runR c f win))) = (0 : Nat) ∧ runR (c.1, c.snd.1, c.snd.snd.fst, c.snd.snd.snd) (f.fst, f.snd.fst, f.snd.snd.fst, f.snd.snd.snd) win = runR c f win) ∧ x ≤ List.length (runR c f win) ∧ ∀ (x : Nat), x ≤ List.length (runR c f win) → (decide ((↑x : Int) < (↑(List.length (runR c f win)) : Int)) = true → (((0 : Int) ≤ (↑x : Int) ∧ (↑x : Int) < (↑(List.length (runR c f win)) : Int)) ∧ (0 : Int) ≤ (↑x : Int) ∧ (↑x : Int) < (↑(List.length (runR c f win)) : Int)) ∧ (((List.getD (runR c f win) x (vc28_0 c f win)).snd.fst != (0 : Int)) = true → (((0 : Int) ≤ (↑x : Int) ∧ (↑x : Int) < (↑(List.length (runR c f win)) : Int)) ∧ ((0 : Int) ≤ (↑x : Int) ∧ (↑x : Int) < (↑(List.length (runR c f win)) : Int)) ∧ (((List.getD (runR c f win) x (vc28_0 c f win)).snd.fst != (0 : Int)) = true → (0 : Int) ≤ (↑x : Int) ∧ (↑x : Int) < (↑(List.length (runR c f win)) : Int)) ∧ (((List.getD (runR c f win) x (vc28_0 c f win)).snd.fst != (0 : Int)) = true → (0 : Int) ≤ (↑x : Int) ∧ (↑x : Int) < (↑(List.length (runR c f win)) : Int))) ∧ ((bif (List.getD (runR c f win) x (vc28_0 c f win)).snd.fst != (0 : Int) then (List.getD (runR c f win) x (vc28_0 c f win)).snd.fst != (↑(List.length c.fst) : Int) else false) = true → ((-9223372036854775808 : Int) ≤ (↑x : Int) + (1 : Int) ∧ (↑x : Int) + (1 : Int) ≤ (9223372036854775807 : Int)) ∧ ∃ (y : Nat), ((↑x : Int) + (1 : Int) = (↑y : Int) ∧ c.1 = c.fst ∧ c.snd.1 = c.snd.fst ∧ c.snd.snd.fst = c.snd.snd.fst ∧ c.snd.snd.snd = c.snd.snd.snd ∧ refA c (List.take x (runR c f win)) = refA c (List.take y (runR c f win)) ∧ runR c f win = runR c f win) ∧ y ≤ List.length (runR c f win) ∧ List.length (runR c f win) - y < List.length (runR c f win) - x) ∧ ((bif (List.getD (runR c f win) x (vc28_0 c f win)).snd.fst != (0 : Int) then (List.getD (runR c f win) x (vc28_0 c f win)).snd.fst != (↑(List.length c.fst) : Int) else false) = false → ((-9223372036854775808 : Int) ≤ (↑(List.length (refA c (List.take x (runR c f win)))) : Int) - (1 : Int) ∧ (↑(List.length (refA c (List.take x (runR c f win)))) : Int) - (1 : Int) ≤ (9223372036854775807 : Int)) ∧ ((decide ((0 : Int) ≤ (↑(List.length (refA c (List.take x (runR c f win)))) : Int) - (1 : Int)) = true → (0 : Int) ≤ (↑(List.length (refA c (List.take x (runR c f win)))) : Int) - (1 : Int) ∧ (↑(List.length (refA c (List.take x (runR c f win)))) : Int) - (1 : Int) < (↑(List.length (refA c (List.take x (runR c f win)))) : Int)) ∧ (decide ((0 : Int) ≤ (↑(List.length (refA c (List.take x (runR c f win)))) : Int) - (1 : Int)) = true → (0 : Int) ≤ (↑(List.length (refA c (List.take x (runR c f win)))) : Int) - (1 : Int) ∧ (↑(List.length (refA c (List.take x (runR c f win)))) : Int) - (1 : Int) < (↑(List.length (refA c (List.take x (runR c f win)))) : Int)) ∧ (decide ((0 : Int) ≤ (↑(List.length (refA c (List.take x (runR c f win)))) : Int) - (1 : Int)) = true → (0 : Int) ≤ (↑x : Int) ∧ (↑x : Int) < (↑(List.length (runR c f win)) : Int)) ∧ (decide ((0 : Int) ≤ (↑(List.length (refA c (List.take x (runR c f win)))) : Int) - (1 : Int)) = true → (0 : Int) ≤ (↑x : Int) ∧ (↑x : Int) < (↑(List.length (runR c f win)) : Int)) ∧ ((bif decide ((0 : Int) ≤ (↑(List.length (refA c (List.take x (runR c f win)))) : Int) - (1 : Int)) then (List.getD (refA c (List.take x (runR c f win))) (Int.toNat ((↑(List.length (refA c (List.take x (runR c f win)))) : Int) - (1 : Int))) (vc28_1 c f win)).fst == (List.getD (runR c f win) x (vc28_0 c f win)).fst else false) = true → (0 : Int) ≤ (↑(List.length (refA c (List.take x (runR c f win)))) : Int) - (1 : Int) ∧ (↑(List.length (refA c (List.take x (runR c f win)))) : Int) - (1 : Int) < (↑(List.length (refA c (List.take x (runR c f win)))) : Int)) ∧ ((bif decide ((0 : Int) ≤ (↑(List.length (refA c (List.take x (runR c f win)))) : Int) - (1 : Int)) then (List.getD (refA c (List.take x (runR c f win))) (Int.toNat ((↑(List.length (refA c (List.take x (runR c f win)))) : Int) - (1 : Int))) (vc28_1 c f win)).fst == (List.getD (runR c f win) x (vc28_0 c f win)).fst else false) = true → (0 : Int) ≤ (↑(List.length (refA c (List.take x (runR c f win)))) : Int) - (1 : Int) ∧ (↑(List.length (refA c (List.take x (runR c f win)))) : Int) - (1 : Int) < (↑(List.length (refA c (List.take x (runR c f win)))) : Int))) ∧ ((bif bif decide ((0 : Int) ≤ (↑(List.length (refA c (List.take x (runR c f win)))) : Int) - (1 : Int)) then (List.getD (refA c (List.take x (runR c f win))) (Int.toNat ((↑(List.length (refA c (List.take x (runR c f win)))) : Int) - (1 : Int))) (vc28_1 c f win)).fst == (List.getD (runR c f win) x (vc28_0 c f win)).fst else false then ByteArray.toList (List.getD (refA c (List.take x (runR c f win))) (Int.toNat ((↑(List.length (refA c (List.take x (runR c f win)))) : Int) - (1 : Int))) (vc28_1 c f win)).snd.fst == ByteArray.toList (ByteArray.mk (Array.mk [(66 : UInt8)])) else false) = true → (((0 : Int) ≤ (↑(List.length (refA c (List.take x (runR c f win)))) : Int) - (1 : Int) ∧ (↑(List.length (refA c (List.take x (runR c f win)))) : Int) - (1 : Int) < (↑(List.length (refA c (List.take x (runR c f win)))) : Int)) ∧ ((0 : Int) ≤ (↑(List.length (refA c (List.take x (runR c f win)))) : Int) - (1 : Int) ∧ (↑(List.length (refA c (List.take x (runR c f win)))) : Int) - (1 : Int) < (↑(List.length (refA c (List.take x (runR c f win)))) : Int)) ∧ ((0 : Int) ≤ (↑x : Int) ∧ (↑x : Int) < (↑(List.length (runR c f win)) : Int)) ∧ ((0 : Int) ≤ (↑x : Int) ∧ (↑x : Int) < (↑(List.length (runR c f win)) : Int)) ∧ ((-9223372036854775808 : Int) ≤ (List.getD (refA c (List.take x (runR c f win))) (Int.toNat ((↑(List.length (refA c (List.take x (runR c f win)))) : Int) - (1 : Int))) (vc28_1 c f win)).snd.snd + (List.getD (runR c f win) x (vc28_0 c f win)).snd.snd.snd.snd ∧ (List.getD (refA c (List.take x (runR c f win))) (Int.toNat ((↑(List.length (refA c (List.take x (runR c f win)))) : Int) - (1 : Int))) (vc28_1 c f win)).snd.snd + (List.getD (runR c f win) x (vc28_0 c f win)).snd.snd.snd.snd ≤ (9223372036854775807 : Int)) ∧ ((0 : Int) ≤ (↑(List.length (refA c (List.take x (runR c f win)))) : Int) - (1 : Int) ∧ (↑(List.length (refA c (List.take x (runR c f win)))) : Int) - (1 : Int) < (↑(List.length (refA c (List.take x (runR c f win)))) : Int)) ∧ (0 : Int) ≤ (↑(List.length (refA c (List.take x (runR c f win)))) : Int) - (1 : Int) ∧ (↑(List.length (refA c (List.take x (runR c f win)))) : Int) - (1 : Int) < (↑(List.length (refA c (List.take x (runR c f win)))) : Int)) ∧ ((-9223372036854775808 : Int) ≤ (↑x : Int) + (1 : Int) ∧ (↑x : Int) + (1 : Int) ≤ (9223372036854775807 : Int)) ∧ ∃ (y : Nat), ((↑x : Int) + (1 : Int) = (↑y : Int) ∧ c.1 = c.fst ∧ c.snd.1 = c.snd.fst ∧ c.snd.snd.fst = c.snd.snd.fst ∧ c.snd.snd.snd = c.snd.snd.snd ∧ List.set (refA c (List.take x (runR c f win))) (Int.toNat ((↑(List.length (refA c (List.take x (runR c f win)))) : Int) - (1 : Int))) ((List.getD (refA c (List.take x (runR c f win))) (Int.toNat ((↑(List.length (refA c (List.take x (runR c f win)))) : Int) - (1 : Int))) (vc28_1 c f win)).fst, (List.getD (refA c (List.take x (runR c f win))) (Int.toNat ((↑(List.length (refA c (List.take x (runR c f win)))) : Int) - (1 : Int))) (vc28_1 c f win)).snd.fst, (List.getD (refA c (List.take x (runR c f win))) (Int.toNat ((↑(List.length (refA c (List.take x (runR c f win)))) : Int) - (1 : Int))) (vc28_1 c f win)).snd.snd + (List.getD (runR c f win) x (vc28_0 c f win)).snd.snd.snd.snd) = refA c (List.take y (runR c f win)) ∧ runR c f win = runR c f win) ∧ y ≤ List.length (runR c f win) ∧ List.length (runR c f win) - y < List.length (runR c f win) - x) ∧ ((bif bif decide ((0 : Int) ≤ (↑(List.length (refA c (List.take x (runR c f win)))) : Int) - (1 : Int)) then (List.getD (refA c (List.take x (runR c f win))) (Int.toNat ((↑(List.length (refA c (List.take x (runR c f win)))) : Int) - (1 : Int))) (vc28_1 c f win)).fst == (List.getD (runR c f win) x (vc28_0 c f win)).fst else false then ByteArray.toList (List.getD (refA c (List.take x (runR c f win))) (Int.toNat ((↑(List.length (refA c (List.take x (runR c f win)))) : Int) - (1 : Int))) (vc28_1 c f win)).snd.fst == ByteArray.toList (ByteArray.mk (Array.mk [(66 : UInt8)])) else false) = false → (((0 : Int) ≤ (↑x : Int) ∧ (↑x : Int) < (↑(List.length (runR c f win)) : Int)) ∧ ((0 : Int) ≤ (↑x : Int) ∧ (↑x : Int) < (↑(List.length (runR c f win)) : Int)) ∧ ((0 : Int) ≤ (↑x : Int) ∧ (↑x : Int) < (↑(List.length (runR c f win)) : Int)) ∧ ((0 : Int) ≤ (↑x : Int) ∧ (↑x : Int) < (↑(List.length (runR c f win)) : Int)) ∧ (List.length (refA c (List.take x (runR c f win))) + (1 : Nat)) * (32 : Nat) ≤ (140737488355328 : Nat)) ∧ ((-9223372036854775808 : Int) ≤ (↑x : Int) + (1 : Int) ∧ (↑x : Int) + (1 : Int) ≤ (9223372036854775807 : Int)) ∧ ∃ (y : Nat), ((↑x : Int) + (1 : Int) = (↑y : Int) ∧ c.1 = c.fst ∧ c.snd.1 = c.snd.fst ∧ c.snd.snd.fst = c.snd.snd.fst ∧ c.snd.snd.snd = c.snd.snd.snd ∧ refA c (List.take x (runR c f win)) ++ [((List.getD (runR c f win) x (vc28_0 c f win)).fst, ByteArray.mk (Array.mk [(66 : UInt8)]), (List.getD (runR c f win) x (vc28_0 c f win)).snd.snd.snd.snd)] = refA c (List.take y (runR c f win)) ∧ runR c f win = runR c f win) ∧ y ≤ List.length (runR c f win) ∧ List.length (runR c f win) - y < List.length (runR c f win) - x))) ∧ (((List.getD (runR c f win) x (vc28_0 c f win)).snd.fst != (0 : Int)) = false → (((0 : Int) ≤ (↑x : Int) ∧ (↑x : Int) < (↑(List.length (runR c f win)) : Int)) ∧ ((0 : Int) ≤ (↑x : Int) ∧ (↑x : Int) < (↑(List.length (runR c f win)) : Int)) ∧ (((List.getD (runR c f win) x (vc28_0 c f win)).snd.fst != (0 : Int)) = true → (0 : Int) ≤ (↑x : Int) ∧ (↑x : Int) < (↑(List.length (runR c f win)) : Int)) ∧ (((List.getD (runR c f win) x (vc28_0 c f win)).snd.fst != (0 : Int)) = true → (0 : Int) ≤ (↑x : Int) ∧ (↑x : Int) < (↑(List.length (runR c f win)) : Int))) ∧ ((bif (List.getD (runR c f win) x (vc28_0 c f win)).snd.fst != (0 : Int) then (List.getD (runR c f win) x (vc28_0 c f win)).snd.fst != (↑(List.length c.fst) : Int) else false) = true → ((-9223372036854775808 : Int) ≤ (↑x : Int) + (1 : Int) ∧ (↑x : Int) + (1 : Int) ≤ (9223372036854775807 : Int)) ∧ ∃ (y : Nat), ((↑x : Int) + (1 : Int) = (↑y : Int) ∧ c.1 = c.fst ∧ c.snd.1 = c.snd.fst ∧ c.snd.snd.fst = c.snd.snd.fst ∧ c.snd.snd.snd = c.snd.snd.snd ∧ refA c (List.take x (runR c f win)) = refA c (List.take y (runR c f win)) ∧ runR c f win = runR c f win) ∧ y ≤ List.length (runR c f win) ∧ List.length (runR c f win) - y < List.length (runR c f win) - x) ∧ ((bif (List.getD (runR c f win) x (vc28_0 c f win)).snd.fst != (0 : Int) then (List.getD (runR c f win) x (vc28_0 c f win)).snd.fst != (↑(List.length c.fst) : Int) else false) = false → ((-9223372036854775808 : Int) ≤ (↑(List.length (refA c (List.take x (runR c f win)))) : Int) - (1 : Int) ∧ (↑(List.length (refA c (List.take x (runR c f win)))) : Int) - (1 : Int) ≤ (9223372036854775807 : Int)) ∧ ((decide ((0 : Int) ≤ (↑(List.length (refA c (List.take x (runR c f win)))) : Int) - (1 : Int)) = true → (0 : Int) ≤ (↑(List.length (refA c (List.take x (runR c f win)))) : Int) - (1 : Int) ∧ (↑(List.length (refA c (List.take x (runR c f win)))) : Int) - (1 : Int) < (↑(List.length (refA c (List.take x (runR c f win)))) : Int)) ∧ (decide ((0 : Int) ≤ (↑(List.length (refA c (List.take x (runR c f win)))) : Int) - (1 : Int)) = true → (0 : Int) ≤ (↑(List.length (refA c (List.take x (runR c f win)))) : Int) - (1 : Int) ∧ (↑(List.length (refA c (List.take x (runR c f win)))) : Int) - (1 : Int) < (↑(List.length (refA c (List.take x (runR c f win)))) : Int)) ∧ (decide ((0 : Int) ≤ (↑(List.length (refA c (List.take x (runR c f win)))) : Int) - (1 : Int)) = true → (0 : Int) ≤ (↑x : Int) ∧ (↑x : Int) < (↑(List.length (runR c f win)) : Int)) ∧ (decide ((0 : Int) ≤ (↑(List.length (refA c (List.take x (runR c f win)))) : Int) - (1 : Int)) = true → (0 : Int) ≤ (↑x : Int) ∧ (↑x : Int) < (↑(List.length (runR c f win)) : Int)) ∧ ((bif decide ((0 : Int) ≤ (↑(List.length (refA c (List.take x (runR c f win)))) : Int) - (1 : Int)) then (List.getD (refA c (List.take x (runR c f win))) (Int.toNat ((↑(List.length (refA c (List.take x (runR c f win)))) : Int) - (1 : Int))) (vc28_1 c f win)).fst == (List.getD (runR c f win) x (vc28_0 c f win)).fst else false) = true → (0 : Int) ≤ (↑(List.length (refA c (List.take x (runR c f win)))) : Int) - (1 : Int) ∧ (↑(List.length (refA c (List.take x (runR c f win)))) : Int) - (1 : Int) < (↑(List.length (refA c (List.take x (runR c f win)))) : Int)) ∧ ((bif decide ((0 : Int) ≤ (↑(List.length (refA c (List.take x (runR c f win)))) : Int) - (1 : Int)) then (List.getD (refA c (List.take x (runR c f win))) (Int.toNat ((↑(List.length (refA c (List.take x (runR c f win)))) : Int) - (1 : Int))) (vc28_1 c f win)).fst == (List.getD (runR c f win) x (vc28_0 c f win)).fst else false) = true → (0 : Int) ≤ (↑(List.length (refA c (List.take x (runR c f win)))) : Int) - (1 : Int) ∧ (↑(List.length (refA c (List.take x (runR c f win)))) : Int) - (1 : Int) < (↑(List.length (refA c (List.take x (runR c f win)))) : Int))) ∧ ((bif bif decide ((0 : Int) ≤ (↑(List.length (refA c (List.take x (runR c f win)))) : Int) - (1 : Int)) then (List.getD (refA c (List.take x (runR c f win))) (Int.toNat ((↑(List.length (refA c (List.take x (runR c f win)))) : Int) - (1 : Int))) (vc28_1 c f win)).fst == (List.getD (runR c f win) x (vc28_0 c f win)).fst else false then ByteArray.toList (List.getD (refA c (List.take x (runR c f win))) (Int.toNat ((↑(List.length (refA c (List.take x (runR c f win)))) : Int) - (1 : Int))) (vc28_1 c f win)).snd.fst == ByteArray.toList (ByteArray.mk (Array.mk [(65 : UInt8)])) else false) = true → (((0 : Int) ≤ (↑(List.length (refA c (List.take x (runR c f win)))) : Int) - (1 : Int) ∧ (↑(List.length (refA c (List.take x (runR c f win)))) : Int) - (1 : Int) < (↑(List.length (refA c (List.take x (runR c f win)))) : Int)) ∧ ((0 : Int) ≤ (↑(List.length (refA c (List.take x (runR c f win)))) : Int) - (1 : Int) ∧ (↑(List.length (refA c (List.take x (runR c f win)))) : Int) - (1 : Int) < (↑(List.length (refA c (List.take x (runR c f win)))) : Int)) ∧ ((0 : Int) ≤ (↑x : Int) ∧ (↑x : Int) < (↑(List.length (runR c f win)) : Int)) ∧ ((0 : Int) ≤ (↑x : Int) ∧ (↑x : Int) < (↑(List.length (runR c f win)) : Int)) ∧ ((-9223372036854775808 : Int) ≤ (List.getD (refA c (List.take x (runR c f win))) (Int.toNat ((↑(List.length (refA c (List.take x (runR c f win)))) : Int) - (1 : Int))) (vc28_1 c f win)).snd.snd + (List.getD (runR c f win) x (vc28_0 c f win)).snd.snd.snd.snd ∧ (List.getD (refA c (List.take x (runR c f win))) (Int.toNat ((↑(List.length (refA c (List.take x (runR c f win)))) : Int) - (1 : Int))) (vc28_1 c f win)).snd.snd + (List.getD (runR c f win) x (vc28_0 c f win)).snd.snd.snd.snd ≤ (9223372036854775807 : Int)) ∧ ((0 : Int) ≤ (↑(List.length (refA c (List.take x (runR c f win)))) : Int) - (1 : Int) ∧ (↑(List.length (refA c (List.take x (runR c f win)))) : Int) - (1 : Int) < (↑(List.length (refA c (List.take x (runR c f win)))) : Int)) ∧ (0 : Int) ≤ (↑(List.length (refA c (List.take x (runR c f win)))) : Int) - (1 : Int) ∧ (↑(List.length (refA c (List.take x (runR c f win)))) : Int) - (1 : Int) < (↑(List.length (refA c (List.take x (runR c f win)))) : Int)) ∧ ((-9223372036854775808 : Int) ≤ (↑x : Int) + (1 : Int) ∧ (↑x : Int) + (1 : Int) ≤ (9223372036854775807 : Int)) ∧ ∃ (y : Nat), ((↑x : Int) + (1 : Int) = (↑y : Int) ∧ c.1 = c.fst ∧ c.snd.1 = c.snd.fst ∧ c.snd.snd.fst = c.snd.snd.fst ∧ c.snd.snd.snd = c.snd.snd.snd ∧ List.set (refA c (List.take x (runR c f win))) (Int.toNat ((↑(List.length (refA c (List.take x (runR c f win)))) : Int) - (1 : Int))) ((List.getD (refA c (List.take x (runR c f win))) (Int.toNat ((↑(List.length (refA c (List.take x (runR c f win)))) : Int) - (1 : Int))) (vc28_1 c f win)).fst, (List.getD (refA c (List.take x (runR c f win))) (Int.toNat ((↑(List.length (refA c (List.take x (runR c f win)))) : Int) - (1 : Int))) (vc28_1 c f win)).snd.fst, (List.getD (refA c (List.take x (runR c f win))) (Int.toNat ((↑(List.length (refA c (List.take x (runR c f win)))) : Int) - (1 : Int))) (vc28_1 c f win)).snd.snd + (List.getD (runR c f win) x (vc28_0 c f win)).snd.snd.snd.snd) = refA c (List.take y (runR c f win)) ∧ runR c f win = runR c f win) ∧ y ≤ List.length (runR c f win) ∧ List.length (runR c f win) - y < List.length (runR c f win) - x) ∧ ((bif bif decide ((0 : Int) ≤ (↑(List.length (refA c (List.take x (runR c f win)))) : Int) - (1 : Int)) then (List.getD (refA c (List.take x (runR c f win))) (Int.toNat ((↑(List.length (refA c (List.take x (runR c f win)))) : Int) - (1 : Int))) (vc28_1 c f win)).fst == (List.getD (runR c f win) x (vc28_0 c f win)).fst else false then ByteArray.toList (List.getD (refA c (List.take x (runR c f win))) (Int.toNat ((↑(List.length (refA c (List.take x (runR c f win)))) : Int) - (1 : Int))) (vc28_1 c f win)).snd.fst == ByteArray.toList (ByteArray.mk (Array.mk [(65 : UInt8)])) else false) = false → (((0 : Int) ≤ (↑x : Int) ∧ (↑x : Int) < (↑(List.length (runR c f win)) : Int)) ∧ ((0 : Int) ≤ (↑x : Int) ∧ (↑x : Int) < (↑(List.length (runR c f win)) : Int)) ∧ ((0 : Int) ≤ (↑x : Int) ∧ (↑x : Int) < (↑(List.length (runR c f win)) : Int)) ∧ ((0 : Int) ≤ (↑x : Int) ∧ (↑x : Int) < (↑(List.length (runR c f win)) : Int)) ∧ (List.length (refA c (List.take x (runR c f win))) + (1 : Nat)) * (32 : Nat) ≤ (140737488355328 : Nat)) ∧ ((-9223372036854775808 : Int) ≤ (↑x : Int) + (1 : Int) ∧ (↑x : Int) + (1 : Int) ≤ (9223372036854775807 : Int)) ∧ ∃ (y : Nat), ((↑x : Int) + (1 : Int) = (↑y : Int) ∧ c.1 = c.fst ∧ c.snd.1 = c.snd.fst ∧ c.snd.snd.fst = c.snd.snd.fst ∧ c.snd.snd.snd = c.snd.snd.snd ∧ refA c (List.take x (runR c f win)) ++ [((List.getD (runR c f win) x (vc28_0 c f win)).fst, ByteArray.mk (Array.mk [(65 : UInt8)]), (List.getD (runR c f win) x (vc28_0 c f win)).snd.snd.snd.snd)] = refA c (List.take y (runR c f win)) ∧ runR c f win = runR c f win) ∧ y ≤ List.length (runR c f win) ∧ List.length (runR c f win) - y < List.length (runR c f win) - x)))) ∧ (decide ((↑x : Int) < (↑(List.length (runR c f win)) : Int)) = false → refA c (List.take x (runR c f win)) = refA c (runR c f win))) := by
 intros
 kernel_rfl
theorem wp28 (c : Cab) (f : Flt) (win : Int) : wpF Tryz.prog G66 (ann0 (annArR c f win)) Tryz.f28 cArrR (c, f, win, ()) := by
 refine (vc28 c f win).mpr ?_
 delta vc28_0 vc28_1
 intro h1
 obtain ⟨ef, hw⟩ := winS_V h1
 obtain ⟨hc, hfv⟩ := fltS_V ef
 obtain ⟨hH, hL⟩ := runR_H (win := win) hfv
 refine ⟨⟨ef, hw⟩, (0 : Nat), ⟨rfl, rfl, rfl, rfl, rfl, rfl, rfl⟩, Nat.zero_le _, fun (k : Nat) hk => ⟨fun e => ?_, fun e => ?_⟩⟩
 ·have hlt : k < (runR c f win).length := by simpa using e
  have hs : refA c ((runR c f win).take (k + 1)) = stepR' c.1.length (refA c ((runR c f win).take k)) ((runR c f win).getD k (0, 0, false, 0, 0)) := by
   rw [← take_snoc (d := (0, 0, false, 0, 0)) hlt, refA_snoc]
  have ho := refA_ok (c := c) (l := (runR c f win).take k) fun w hw => (hH w (List.mem_of_mem_take hw)).1
  have hww := wvH_ht (hH _ (getD_mem (d := (0, 0, false, 0, 0)) hlt)).1
  have hkl : ((runR c f win).take k).length ≤ 4374 := by simp; omega
  generalize ((runR c f win).take k).length = n at ho hkl
  generalize refA c ((runR c f win).take k) = o at *
  generalize (runR c f win).getD k (0, 0, false, 0, 0) = w at *
  obtain ⟨o1, o2⟩ := ho
  have kk : (0 ≤ (k : Int) ∧ (k : Int) < (runR c f win).length) := by omega
  have nx : ∀ o', stepR' c.1.length o w = o' → ∃ y : Nat, ((k : Int) + 1 = y ∧ c.1 = c.1 ∧ c.2.1 = c.2.1 ∧ c.2.2.1 = c.2.2.1 ∧ c.2.2.2 = c.2.2.2 ∧ o' = refA c ((runR c f win).take y) ∧ runR c f win = runR c f win) ∧ y ≤ (runR c f win).length ∧ (runR c f win).length - y < (runR c f win).length - k := fun o' ho' =>
   ⟨k + 1, ⟨by simp, rfl, rfl, rfl, rfl, by rw [hs, ho'], rfl⟩, by omega, by omega⟩
  have lo : o ≠ [] → 0 ≤ (o.length : Int) - 1 ∧ (o.length : Int) - 1 < o.length := fun h => by
   have : 0 < o.length := List.length_pos_iff.2 h
   omega
  have ld : decide (0 ≤ (o.length : Int) - 1) = true → 0 ≤ (o.length : Int) - 1 ∧ (o.length : Int) - 1 < o.length := fun h => by
   have := of_decide_eq_true h; omega
  have lb : ∀ b : Bool, (bif decide (0 ≤ (o.length : Int) - 1) then b else false) = true → 0 ≤ (o.length : Int) - 1 ∧ (o.length : Int) - 1 < o.length := fun b h => by
   cases hd : decide (0 ≤ (o.length : Int) - 1) with
   | false => rw [hd] at h; cases h
   | true => exact ld hd
  have hb : ∀ h : o ≠ [], -9223372036854775808 ≤ (o.getD ((o.length : Int) - 1).toNat dA).2.2 + w.2.2.2.2 ∧ (o.getD ((o.length : Int) - 1).toNat dA).2.2 + w.2.2.2.2 ≤ 9223372036854775807 := fun h => by
   rw [lastA_eq h]
   have := o2 _ (last_mem h); omega
  have body : ∀ e : ByteArray, endW w = e → ¬ (w.2.1 ≠ 0 ∧ w.2.1 ≠ c.1.length) → _ := fun e he hn => And.intro
   (fun h : o ≠ [] ∧ (lastA o).1 = w.1 ∧ (lastA o).2.1 = e => (show stepR' c.1.length o w = o.set ((o.length : Int) - 1).toNat ((o.getD ((o.length : Int) - 1).toNat dA).1, (o.getD ((o.length : Int) - 1).toNat dA).2.1, (o.getD ((o.length : Int) - 1).toNat dA).2.2 + w.2.2.2.2) by
    unfold stepR'
    have : 0 < o.length := List.length_pos_iff.2 h.1
    rw [if_neg hn, he, if_pos h, lastA_eq h.1, h.2.1, h.2.2, show ((o.length : Int) - 1).toNat = o.length - 1 by omega]))
   (fun h : ¬ (o ≠ [] ∧ (lastA o).1 = w.1 ∧ (lastA o).2.1 = e) => (show stepR' c.1.length o w = o ++ [(w.1, e, w.2.2.2.2)] by
    unfold stepR'
    rw [if_neg hn, he, if_neg h]))
  refine ⟨⟨kk, kk⟩, fun e0 => ⟨⟨kk, kk, fun _ => kk, fun _ => kk⟩, fun e1 => ?_, fun e1 => ?_⟩, fun e0 => ⟨⟨kk, kk, fun _ => kk, fun _ => kk⟩, fun e1 => ?_, fun e1 => ?_⟩⟩
  ·have e0 : w.2.1 ≠ 0 := bne_iff_ne.1 e0
   rw [bne_iff_ne.2 e0] at e1
   have e1 : w.2.1 ≠ c.1.length := bne_iff_ne.1 e1
   exact ⟨by omega, nx o (by unfold stepR'; rw [if_pos ⟨e0, e1⟩])⟩
  ·have e0 : w.2.1 ≠ 0 := bne_iff_ne.1 e0
   rw [bne_iff_ne.2 e0] at e1
   have e1 : w.2.1 = c.1.length := bne_eq_false_iff_eq.1 e1
   have hB := body sB (by unfold endW; rw [if_neg e0]) (fun q => q.2 e1)
   refine ⟨by omega, ⟨ld, ld, fun _ => kk, fun _ => kk, lb _, lb _⟩, fun h => ?_, fun h => ?_⟩
   ·have h := condR.1 h
    exact ⟨⟨lo h.1, lo h.1, kk, kk, hb h.1, lo h.1, lo h.1⟩, by omega, nx _ (hB.1 h)⟩
   ·have h := condR'.1 h
    exact ⟨⟨kk, kk, kk, kk, by omega⟩, by omega, nx _ (hB.2 h)⟩
  ·have e0 : w.2.1 = 0 := bne_eq_false_iff_eq.1 e0
   rw [bne_eq_false_iff_eq.2 e0] at e1
   cases e1
  ·have e0 : w.2.1 = 0 := bne_eq_false_iff_eq.1 e0
   have hB := body sA (by unfold endW; rw [if_pos e0]) (fun q => q.1 e0)
   refine ⟨by omega, ⟨ld, ld, fun _ => kk, fun _ => kk, lb _, lb _⟩, fun h => ?_, fun h => ?_⟩
   ·have h := condR.1 h
    exact ⟨⟨lo h.1, lo h.1, kk, kk, hb h.1, lo h.1, lo h.1⟩, by omega, nx _ (hB.1 h)⟩
   ·have h := condR'.1 h
    exact ⟨⟨kk, kk, kk, kk, by omega⟩, by omega, nx _ (hB.2 h)⟩
 ·have hge : ¬ k < (runR c f win).length := by simpa using e
  rw [List.take_of_length_le (by omega)]
theorem ok28 [Sx.Dr] : Ok Tryz.prog 28 cArrR := ok_of_wp mixed g66 (by kernel_rfl) (by kernel_rfl) (fun xx => ann0 (annArR xx.1 xx.2.1 xx.2.2.1)) fun xx => wp28 xx.1 xx.2.1 xx.2.2.1
abbrev G67 : Gam := (28, cArrR) :: G66
theorem g67 [Sx.Dr] : GamOk Tryz.prog G67 := .cons ok28 g66
set_option maxHeartbeats 20000000
set_option pp.deepTerms true
set_option pp.maxSteps 1000000
def lateA (p : Option Arr) (a : Arr) : Bool := match p with
 | none => false
 | some b => decide (cmpA a b ≤ 0)
def oneA (p : Option Arr) (a : Arr) : Int := firstS [withinS a.1 0 999999999, endS a.2.1, withinS a.2.2 (-17592186044416) 17592186044416, bif lateA p a then 11 else 0]
def chkGo : Option Arr → List Arr → Int
 | _, [] => 0
 | p, a :: r => if oneA p a = 0 then chkGo (some a) r else oneA p a
def prevA (l : List Arr) (k : Nat) : Option Arr := if k = 0 then none else some (l.getD (k - 1) dA)
def arrE (l : List Arr) : Int := if 2048 < l.length then 5 else chkGo none l
theorem chk_drop {l : List Arr} {k : Nat} (h : k < l.length) : chkGo (prevA l k) (l.drop k) = if oneA (prevA l k) (l.getD k dA) = 0 then chkGo (prevA l (k + 1)) (l.drop (k + 1)) else oneA (prevA l k) (l.getD k dA) := by
 rw [drop_cons (d := dA) h]
 simp only [chkGo]
 have : prevA l (k + 1) = some (l.getD k dA) := by unfold prevA; simp
 rw [this]
theorem prev_succ (l : List Arr) (k : Nat) : prevA l (k + 1) = some (l.getD k dA) := by unfold prevA; simp
theorem late_eq (l : List Arr) (k : Nat) : (bif decide (0 < (k : Int)) then decide (cmpA (l.getD k dA) (l.getD (max 0 ((k : Int) - 1)).toNat dA) ≤ 0) else false) = lateA (prevA l k) (l.getD k dA) := by
 cases k with
 | zero => rfl
 | succ n =>
  rw [prev_succ, decide_eq_true (by omega : (0 : Int) < ((n + 1 : Nat) : Int)), show (max 0 (((n + 1 : Nat) : Int) - 1)).toNat = n by omega]
  rfl
theorem cmpA_le (a b : Arr) : decide (cmpA a b ≤ 0) = (bif decide (a.1 < b.1) then true else bif a.1 == b.1 then (Op.bytesLess a.2.1.toList b.2.1.toList || a.2.1.toList == b.2.1.toList) else false) := by
 by_cases h1 : a.1 < b.1
 ·have e0 : cmpI a.1 b.1 = -1 := by unfold cmpI; rw [if_pos h1]
  have e : cmpA a b = -1 := by unfold cmpA; simp [firstS, e0]
  rw [e, decide_eq_true h1]; rfl
 ·rw [decide_eq_false h1]
  by_cases h2 : b.1 < a.1
  ·have e0 : cmpI a.1 b.1 = 1 := by unfold cmpI; rw [if_neg h1, if_pos h2]
   have e : cmpA a b = 1 := by unfold cmpA; simp [firstS, e0]
   have : (a.1 == b.1) = false := by rw [beq_eq_false_iff_ne]; omega
   rw [e, this]; rfl
  ·have e0 : cmpI a.1 b.1 = 0 := by unfold cmpI; rw [if_neg h1, if_neg h2]
   have e : cmpA a b = cmpB a.2.1 b.2.1 := by
    unfold cmpA
    rw [e0]
    generalize cmpB a.2.1 b.2.1 = q
    simp only [firstS]
    rw [if_pos trivial]
    split
    ·omega
    ·rfl
   have : (a.1 == b.1) = true := by rw [beq_iff_eq]; omega
   rw [e, this]
   simp only [cond_true, cond_false]
   unfold cmpB bLt
   cases hb : Op.bytesLess a.2.1.toList b.2.1.toList with
   | true => rfl
   | false =>
    by_cases he : a.2.1.toList = b.2.1.toList
    ·rw [he]; simp
    ·simp [he]
theorem late_eq' (l : List Arr) (k : Nat) : (bif decide (0 < (k : Int)) then (bif decide ((l.getD k dA).1 < (l.getD ((k : Int) - 1).toNat dA).1) then true else bif (l.getD k dA).1 == (l.getD ((k : Int) - 1).toNat dA).1 then (Op.bytesLess (l.getD k dA).2.1.toList (l.getD ((k : Int) - 1).toNat dA).2.1.toList || (l.getD k dA).2.1.toList == (l.getD ((k : Int) - 1).toNat dA).2.1.toList) else false) else false) = lateA (prevA l k) (l.getD k dA) := by
 cases k with
 | zero => rfl
 | succ n =>
  rw [prev_succ, decide_eq_true (by omega : (0 : Int) < ((n + 1 : Nat) : Int)), show (((n + 1 : Nat) : Int) - 1).toNat = n by omega]
  simp only [cond_true]
  rw [← cmpA_le]; rfl
theorem oneA_three (p : Option Arr) (a : Arr) : oneA p a = if firstS [withinS a.1 0 999999999, endS a.2.1, withinS a.2.2 (-17592186044416) 17592186044416] = 0 then (bif lateA p a then 11 else 0) else firstS [withinS a.1 0 999999999, endS a.2.1, withinS a.2.2 (-17592186044416) 17592186044416] := by
 unfold oneA
 generalize withinS a.1 0 999999999 = x
 generalize endS a.2.1 = y
 generalize withinS a.2.2 (-17592186044416) 17592186044416 = z
 generalize (bif lateA p a then (11 : Int) else 0) = q
 simp only [firstS]
 repeat' split
 all_goals first | rfl | omega
def cArrE : Con := { args := [.val false (.list 107 sArr)], ress := [I], owns := [], pre := fun (l, _) => [l.length ≤ 1000000], spec := fun (l, _) => (arrE l, ()) }
abbrev annArE (l : List Arr) : Ann := { X := Nat, σ := fun k => ⟨1, [(0, .one (.sl 0)), (10, .one (.sl 0)), (11, .one (.int .i64 l.length)), (12, .one (.int .i64 k))], [(0, .imm 107 sArr l)]⟩, inv := fun k => k ≤ l.length ∧ l.length ≤ 2048 ∧ arrE l = chkGo (prevA l k) (l.drop k), mu := fun k => l.length - k }
def vc110_0 (l : List Arr) := ((0 : Int), ByteArray.mk (Array.mk []), (0 : Int))
theorem vc110 : ∀ (l : List Arr), wpF Tryz.prog G67 (ann0 (annArE l)) Tryz.f110 cArrE (l, ()) = (List.length l ≤ (1000000 : Nat) → (decide ((2048 : Int) < (↑(List.length l) : Int)) = true → (5 : Int) = arrE l) ∧ (decide ((2048 : Int) < (↑(List.length l) : Int)) = false → ∃ (x : Nat), ((↑(List.length l) : Int) = (↑(List.length l) : Int) ∧ (0 : Int) = (↑x : Int) ∧ l = l) ∧ (x ≤ List.length l ∧ List.length l ≤ (2048 : Nat) ∧ arrE l = chkGo (prevA l x) (List.drop x l)) ∧ ∀ (x : Nat), x ≤ List.length l ∧ List.length l ≤ (2048 : Nat) ∧ arrE l = chkGo (prevA l x) (List.drop x l) → (decide ((↑x : Int) < (↑(List.length l) : Int)) = true → (((0 : Int) ≤ (↑x : Int) ∧ (↑x : Int) < (↑(List.length l) : Int)) ∧ (0 : Int) ≤ (↑x : Int) ∧ (↑x : Int) < (↑(List.length l) : Int)) ∧ ((decide ((0 : Int) < (↑x : Int)) = true → (-9223372036854775808 : Int) ≤ (↑x : Int) - (1 : Int) ∧ (↑x : Int) - (1 : Int) ≤ (9223372036854775807 : Int)) ∧ (decide ((0 : Int) < (↑x : Int)) = true → (0 : Int) ≤ max (0 : Int) ((↑x : Int) - (1 : Int)) ∧ max (0 : Int) ((↑x : Int) - (1 : Int)) < (↑(List.length l) : Int)) ∧ (decide ((0 : Int) < (↑x : Int)) = true → (0 : Int) ≤ max (0 : Int) ((↑x : Int) - (1 : Int)) ∧ max (0 : Int) ((↑x : Int) - (1 : Int)) < (↑(List.length l) : Int))) ∧ (4 : Nat) ≤ (1000000 : Nat) ∧ ((firstS [withinS (List.getD l x (vc110_0 l)).fst (0 : Int) (999999999 : Int), endS (List.getD l x (vc110_0 l)).snd.fst, withinS (List.getD l x (vc110_0 l)).snd.snd (-17592186044416 : Int) (17592186044416 : Int), bif bif decide ((0 : Int) < (↑x : Int)) then decide (cmpA ((List.getD l x (vc110_0 l)).fst, (List.getD l x (vc110_0 l)).snd.fst, (List.getD l x (vc110_0 l)).snd.snd) ((List.getD l (Int.toNat (max (0 : Int) ((↑x : Int) - (1 : Int)))) (vc110_0 l)).fst, (List.getD l (Int.toNat (max (0 : Int) ((↑x : Int) - (1 : Int)))) (vc110_0 l)).snd.fst, (List.getD l (Int.toNat (max (0 : Int) ((↑x : Int) - (1 : Int)))) (vc110_0 l)).snd.snd) ≤ (0 : Int)) else false then (11 : Int) else (0 : Int)] != (0 : Int)) = true → firstS [withinS (List.getD l x (vc110_0 l)).fst (0 : Int) (999999999 : Int), endS (List.getD l x (vc110_0 l)).snd.fst, withinS (List.getD l x (vc110_0 l)).snd.snd (-17592186044416 : Int) (17592186044416 : Int), bif bif decide ((0 : Int) < (↑x : Int)) then decide (cmpA ((List.getD l x (vc110_0 l)).fst, (List.getD l x (vc110_0 l)).snd.fst, (List.getD l x (vc110_0 l)).snd.snd) ((List.getD l (Int.toNat (max (0 : Int) ((↑x : Int) - (1 : Int)))) (vc110_0 l)).fst, (List.getD l (Int.toNat (max (0 : Int) ((↑x : Int) - (1 : Int)))) (vc110_0 l)).snd.fst, (List.getD l (Int.toNat (max (0 : Int) ((↑x : Int) - (1 : Int)))) (vc110_0 l)).snd.snd) ≤ (0 : Int)) else false then (11 : Int) else (0 : Int)] = arrE l) ∧ ((firstS [withinS (List.getD l x (vc110_0 l)).fst (0 : Int) (999999999 : Int), endS (List.getD l x (vc110_0 l)).snd.fst, withinS (List.getD l x (vc110_0 l)).snd.snd (-17592186044416 : Int) (17592186044416 : Int), bif bif decide ((0 : Int) < (↑x : Int)) then decide (cmpA ((List.getD l x (vc110_0 l)).fst, (List.getD l x (vc110_0 l)).snd.fst, (List.getD l x (vc110_0 l)).snd.snd) ((List.getD l (Int.toNat (max (0 : Int) ((↑x : Int) - (1 : Int)))) (vc110_0 l)).fst, (List.getD l (Int.toNat (max (0 : Int) ((↑x : Int) - (1 : Int)))) (vc110_0 l)).snd.fst, (List.getD l (Int.toNat (max (0 : Int) ((↑x : Int) - (1 : Int)))) (vc110_0 l)).snd.snd) ≤ (0 : Int)) else false then (11 : Int) else (0 : Int)] != (0 : Int)) = false → ((-9223372036854775808 : Int) ≤ (↑x : Int) + (1 : Int) ∧ (↑x : Int) + (1 : Int) ≤ (9223372036854775807 : Int)) ∧ ∃ (y : Nat), ((↑(List.length l) : Int) = (↑(List.length l) : Int) ∧ (↑x : Int) + (1 : Int) = (↑y : Int) ∧ l = l) ∧ (y ≤ List.length l ∧ List.length l ≤ (2048 : Nat) ∧ arrE l = chkGo (prevA l y) (List.drop y l)) ∧ List.length l - y < List.length l - x)) ∧ (decide ((↑x : Int) < (↑(List.length l) : Int)) = false → (0 : Int) = arrE l))) := by
 intros
 kernel_rfl
theorem wp110 (l : List Arr) : wpF Tryz.prog G67 (ann0 (annArE l)) Tryz.f110 cArrE (l, ()) := by
 refine (vc110 l).mpr ?_
 delta vc110_0
 intro h1
 refine ⟨fun h => ?_, fun h => ?_⟩
 ·have h := of_decide_eq_true h
  unfold arrE; rw [if_pos (by omega)]
 have h : ¬ 2048 < l.length := by have := of_decide_eq_false h; omega
 have eA : arrE l = chkGo none l := by unfold arrE; rw [if_neg h]
 refine ⟨(0 : Nat), ⟨rfl, rfl, rfl⟩, ⟨Nat.zero_le _, by omega, eA⟩, fun (k : Nat) hk => ⟨fun e => ?_, fun e => ?_⟩⟩
 ·have hlt : k < l.length := by simpa using e
  have hd := chk_drop hlt
  have e1 : firstS [withinS (l.getD k dA).1 0 999999999, endS (l.getD k dA).2.1, withinS (l.getD k dA).2.2 (-17592186044416) 17592186044416, bif (bif decide (0 < (k : Int)) then decide (cmpA (l.getD k dA) (l.getD (max 0 ((k : Int) - 1)).toNat dA) ≤ 0) else false) then 11 else 0] = oneA (prevA l k) (l.getD k dA) := by
   rw [late_eq]; rfl
  refine ⟨⟨by omega, by omega⟩, ⟨fun h => by have := of_decide_eq_true h; omega, fun h => by have := of_decide_eq_true h; omega, fun h => by have := of_decide_eq_true h; omega⟩, by omega, fun h => ?_, fun h => ?_⟩
  ·have h : ¬ oneA (prevA l k) (l.getD k dA) = 0 := by rw [← e1]; exact bne_iff_ne.1 h
   rw [hk.2.2, hd, if_neg h]; exact e1
  ·have h : oneA (prevA l k) (l.getD k dA) = 0 := by rw [← e1]; exact bne_eq_false_iff_eq.1 h
   refine ⟨by omega, (k + 1 : Nat), ⟨rfl, by simp, rfl⟩, ⟨by omega, by omega, ?_⟩, by omega⟩
   rw [hk.2.2, hd, if_pos h]
 ·have hge : ¬ k < l.length := by simpa using e
  rw [hk.2.2, List.drop_of_length_le (by omega)]
  rfl
theorem ok110 [Sx.Dr] : Ok Tryz.prog 110 cArrE := ok_of_wp mixed g67 (by kernel_rfl) (by kernel_rfl) (fun xx => ann0 (annArE xx.1)) fun xx => wp110 xx.1
abbrev G68 : Gam := (110, cArrE) :: G67
theorem g68 [Sx.Dr] : GamOk Tryz.prog G68 := .cons ok110 g67
abbrev annArER (l : List Arr) : Ann := { X := Nat, σ := fun k => ⟨1, [(0, .one (.sl 0)), (3, .one (.int .i64 k))], [(0, .imm 130 sArr l)]⟩, inv := fun k => k ≤ l.length ∧ l.length ≤ 2048 ∧ arrE l = chkGo (prevA l k) (l.drop k), mu := fun k => l.length - k }
def cArrER : Con := { args := [.val false (.list 130 sArr)], ress := [I], owns := [], pre := fun (l, _) => [l.length ≤ 1000000], spec := fun (l, _) => (arrE l, ()) }
def vc43_0 (l : List Arr) := ((0 : Int), ByteArray.mk (Array.mk []), (0 : Int))
theorem vc43 : ∀ (l : List Arr), wpF Tryz.prog G68 (ann0 (annArER l)) Tryz.f43 cArrER (l, ()) = (List.length l ≤ (1000000 : Nat) → (decide ((2048 : Int) < (↑(List.length l) : Int)) = true → (5 : Int) = arrE l) ∧ (decide ((2048 : Int) < (↑(List.length l) : Int)) = false → ∃ (x : Nat), ((0 : Int) = (↑x : Int) ∧ l = l) ∧ (x ≤ List.length l ∧ List.length l ≤ (2048 : Nat) ∧ arrE l = chkGo (prevA l x) (List.drop x l)) ∧ ∀ (x : Nat), x ≤ List.length l ∧ List.length l ≤ (2048 : Nat) ∧ arrE l = chkGo (prevA l x) (List.drop x l) → (decide ((↑x : Int) < (↑(List.length l) : Int)) = true → (((0 : Int) ≤ (↑x : Int) ∧ (↑x : Int) < (↑(List.length l) : Int)) ∧ ((0 : Int) ≤ (↑x : Int) ∧ (↑x : Int) < (↑(List.length l) : Int)) ∧ ((0 : Int) ≤ (↑x : Int) ∧ (↑x : Int) < (↑(List.length l) : Int)) ∧ ((0 : Int) ≤ (↑x : Int) ∧ (↑x : Int) < (↑(List.length l) : Int)) ∧ ((0 : Int) ≤ (↑x : Int) ∧ (↑x : Int) < (↑(List.length l) : Int)) ∧ ((0 : Int) ≤ (↑x : Int) ∧ (↑x : Int) < (↑(List.length l) : Int)) ∧ (3 : Nat) ≤ (1000000 : Nat)) ∧ ((firstS [withinS (List.getD l x (vc43_0 l)).fst (0 : Int) (999999999 : Int), endS (List.getD l x (vc43_0 l)).snd.fst, withinS (List.getD l x (vc43_0 l)).snd.snd (-17592186044416 : Int) (17592186044416 : Int)] != (0 : Int)) = true → firstS [withinS (List.getD l x (vc43_0 l)).fst (0 : Int) (999999999 : Int), endS (List.getD l x (vc43_0 l)).snd.fst, withinS (List.getD l x (vc43_0 l)).snd.snd (-17592186044416 : Int) (17592186044416 : Int)] = arrE l) ∧ ((firstS [withinS (List.getD l x (vc43_0 l)).fst (0 : Int) (999999999 : Int), endS (List.getD l x (vc43_0 l)).snd.fst, withinS (List.getD l x (vc43_0 l)).snd.snd (-17592186044416 : Int) (17592186044416 : Int)] != (0 : Int)) = false → ((decide ((0 : Int) < (↑x : Int)) = true → (0 : Int) ≤ (↑x : Int) ∧ (↑x : Int) < (↑(List.length l) : Int)) ∧ (decide ((0 : Int) < (↑x : Int)) = true → (0 : Int) ≤ (↑x : Int) ∧ (↑x : Int) < (↑(List.length l) : Int)) ∧ (decide ((0 : Int) < (↑x : Int)) = true → (-9223372036854775808 : Int) ≤ (↑x : Int) - (1 : Int) ∧ (↑x : Int) - (1 : Int) ≤ (9223372036854775807 : Int)) ∧ (decide ((0 : Int) < (↑x : Int)) = true → (0 : Int) ≤ (↑x : Int) - (1 : Int) ∧ (↑x : Int) - (1 : Int) < (↑(List.length l) : Int)) ∧ (decide ((0 : Int) < (↑x : Int)) = true → (0 : Int) ≤ (↑x : Int) - (1 : Int) ∧ (↑x : Int) - (1 : Int) < (↑(List.length l) : Int)) ∧ (decide ((0 : Int) < (↑x : Int)) = true ∧ decide ((List.getD l x (vc43_0 l)).fst < (List.getD l (Int.toNat ((↑x : Int) - (1 : Int))) (vc43_0 l)).fst) = false → (0 : Int) ≤ (↑x : Int) ∧ (↑x : Int) < (↑(List.length l) : Int)) ∧ (decide ((0 : Int) < (↑x : Int)) = true ∧ decide ((List.getD l x (vc43_0 l)).fst < (List.getD l (Int.toNat ((↑x : Int) - (1 : Int))) (vc43_0 l)).fst) = false → (0 : Int) ≤ (↑x : Int) ∧ (↑x : Int) < (↑(List.length l) : Int)) ∧ (decide ((0 : Int) < (↑x : Int)) = true ∧ decide ((List.getD l x (vc43_0 l)).fst < (List.getD l (Int.toNat ((↑x : Int) - (1 : Int))) (vc43_0 l)).fst) = false → (-9223372036854775808 : Int) ≤ (↑x : Int) - (1 : Int) ∧ (↑x : Int) - (1 : Int) ≤ (9223372036854775807 : Int)) ∧ (decide ((0 : Int) < (↑x : Int)) = true ∧ decide ((List.getD l x (vc43_0 l)).fst < (List.getD l (Int.toNat ((↑x : Int) - (1 : Int))) (vc43_0 l)).fst) = false → (0 : Int) ≤ (↑x : Int) - (1 : Int) ∧ (↑x : Int) - (1 : Int) < (↑(List.length l) : Int)) ∧ (decide ((0 : Int) < (↑x : Int)) = true ∧ decide ((List.getD l x (vc43_0 l)).fst < (List.getD l (Int.toNat ((↑x : Int) - (1 : Int))) (vc43_0 l)).fst) = false → (0 : Int) ≤ (↑x : Int) - (1 : Int) ∧ (↑x : Int) - (1 : Int) < (↑(List.length l) : Int)) ∧ ((decide ((0 : Int) < (↑x : Int)) = true ∧ decide ((List.getD l x (vc43_0 l)).fst < (List.getD l (Int.toNat ((↑x : Int) - (1 : Int))) (vc43_0 l)).fst) = false) ∧ ((List.getD l x (vc43_0 l)).fst == (List.getD l (Int.toNat ((↑x : Int) - (1 : Int))) (vc43_0 l)).fst) = true → (0 : Int) ≤ (↑x : Int) ∧ (↑x : Int) < (↑(List.length l) : Int)) ∧ ((decide ((0 : Int) < (↑x : Int)) = true ∧ decide ((List.getD l x (vc43_0 l)).fst < (List.getD l (Int.toNat ((↑x : Int) - (1 : Int))) (vc43_0 l)).fst) = false) ∧ ((List.getD l x (vc43_0 l)).fst == (List.getD l (Int.toNat ((↑x : Int) - (1 : Int))) (vc43_0 l)).fst) = true → (0 : Int) ≤ (↑x : Int) ∧ (↑x : Int) < (↑(List.length l) : Int)) ∧ ((decide ((0 : Int) < (↑x : Int)) = true ∧ decide ((List.getD l x (vc43_0 l)).fst < (List.getD l (Int.toNat ((↑x : Int) - (1 : Int))) (vc43_0 l)).fst) = false) ∧ ((List.getD l x (vc43_0 l)).fst == (List.getD l (Int.toNat ((↑x : Int) - (1 : Int))) (vc43_0 l)).fst) = true → (-9223372036854775808 : Int) ≤ (↑x : Int) - (1 : Int) ∧ (↑x : Int) - (1 : Int) ≤ (9223372036854775807 : Int)) ∧ ((decide ((0 : Int) < (↑x : Int)) = true ∧ decide ((List.getD l x (vc43_0 l)).fst < (List.getD l (Int.toNat ((↑x : Int) - (1 : Int))) (vc43_0 l)).fst) = false) ∧ ((List.getD l x (vc43_0 l)).fst == (List.getD l (Int.toNat ((↑x : Int) - (1 : Int))) (vc43_0 l)).fst) = true → (0 : Int) ≤ (↑x : Int) - (1 : Int) ∧ (↑x : Int) - (1 : Int) < (↑(List.length l) : Int)) ∧ ((decide ((0 : Int) < (↑x : Int)) = true ∧ decide ((List.getD l x (vc43_0 l)).fst < (List.getD l (Int.toNat ((↑x : Int) - (1 : Int))) (vc43_0 l)).fst) = false) ∧ ((List.getD l x (vc43_0 l)).fst == (List.getD l (Int.toNat ((↑x : Int) - (1 : Int))) (vc43_0 l)).fst) = true → (0 : Int) ≤ (↑x : Int) - (1 : Int) ∧ (↑x : Int) - (1 : Int) < (↑(List.length l) : Int))) ∧ ((bif decide ((0 : Int) < (↑x : Int)) then bif decide ((List.getD l x (vc43_0 l)).fst < (List.getD l (Int.toNat ((↑x : Int) - (1 : Int))) (vc43_0 l)).fst) then true else bif (List.getD l x (vc43_0 l)).fst == (List.getD l (Int.toNat ((↑x : Int) - (1 : Int))) (vc43_0 l)).fst then Op.bytesLess (ByteArray.toList (List.getD l x (vc43_0 l)).snd.fst) (ByteArray.toList (List.getD l (Int.toNat ((↑x : Int) - (1 : Int))) (vc43_0 l)).snd.fst) || ByteArray.toList (List.getD l x (vc43_0 l)).snd.fst == ByteArray.toList (List.getD l (Int.toNat ((↑x : Int) - (1 : Int))) (vc43_0 l)).snd.fst else false else false) = true → (11 : Int) = arrE l) ∧ ((bif decide ((0 : Int) < (↑x : Int)) then bif decide ((List.getD l x (vc43_0 l)).fst < (List.getD l (Int.toNat ((↑x : Int) - (1 : Int))) (vc43_0 l)).fst) then true else bif (List.getD l x (vc43_0 l)).fst == (List.getD l (Int.toNat ((↑x : Int) - (1 : Int))) (vc43_0 l)).fst then Op.bytesLess (ByteArray.toList (List.getD l x (vc43_0 l)).snd.fst) (ByteArray.toList (List.getD l (Int.toNat ((↑x : Int) - (1 : Int))) (vc43_0 l)).snd.fst) || ByteArray.toList (List.getD l x (vc43_0 l)).snd.fst == ByteArray.toList (List.getD l (Int.toNat ((↑x : Int) - (1 : Int))) (vc43_0 l)).snd.fst else false else false) = false → ((-9223372036854775808 : Int) ≤ (↑x : Int) + (1 : Int) ∧ (↑x : Int) + (1 : Int) ≤ (9223372036854775807 : Int)) ∧ ∃ (y : Nat), ((↑x : Int) + (1 : Int) = (↑y : Int) ∧ l = l) ∧ (y ≤ List.length l ∧ List.length l ≤ (2048 : Nat) ∧ arrE l = chkGo (prevA l y) (List.drop y l)) ∧ List.length l - y < List.length l - x))) ∧ (decide ((↑x : Int) < (↑(List.length l) : Int)) = false → (0 : Int) = arrE l))) := by
 intros
 kernel_rfl
theorem wp43 (l : List Arr) : wpF Tryz.prog G68 (ann0 (annArER l)) Tryz.f43 cArrER (l, ()) := by
 refine (vc43 l).mpr ?_
 delta vc43_0
 intro h1
 refine ⟨fun h => ?_, fun h => ?_⟩
 ·have h := of_decide_eq_true h
  unfold arrE; rw [if_pos (by omega)]
 have h : ¬ 2048 < l.length := by have := of_decide_eq_false h; omega
 have eA : arrE l = chkGo none l := by unfold arrE; rw [if_neg h]
 refine ⟨(0 : Nat), ⟨rfl, rfl⟩, ⟨Nat.zero_le _, by omega, eA⟩, fun (k : Nat) hk => ⟨fun e => ?_, fun e => ?_⟩⟩
 ·have hlt : k < l.length := by simpa using e
  have hd := chk_drop hlt
  have h3 := oneA_three (prevA l k) (l.getD k dA)
  have kk : 0 ≤ (k : Int) ∧ (k : Int) < l.length := by omega
  have km : -9223372036854775808 ≤ (k : Int) - 1 ∧ (k : Int) - 1 ≤ 9223372036854775807 := by omega
  have kp : decide (0 < (k : Int)) = true → 0 ≤ (k : Int) - 1 ∧ (k : Int) - 1 < l.length := fun h => by have := of_decide_eq_true h; omega
  refine ⟨⟨kk, kk, kk, kk, kk, kk, by omega⟩, fun h => ?_, fun h => ⟨⟨fun _ => kk, fun _ => kk, fun _ => km, kp, kp, fun _ => kk, fun _ => kk, fun _ => km, fun q => kp q.1, fun q => kp q.1, fun _ => kk, fun _ => kk, fun _ => km, fun q => kp q.1.1, fun q => kp q.1.1⟩, fun h' => ?_, fun h' => ?_⟩⟩
  ·have h := bne_iff_ne.1 h
   have h3 : oneA (prevA l k) (l.getD k dA) = _ := h3
   rw [if_neg h] at h3
   rw [hk.2.2, hd, h3, if_neg h]
  ·have h := bne_eq_false_iff_eq.1 h
   have h' := (late_eq' l k).symm.trans h'
   rw [if_pos h, h'] at h3
   rw [hk.2.2, hd, h3, if_neg (by decide)]
   rfl
  ·have h := bne_eq_false_iff_eq.1 h
   have h' := (late_eq' l k).symm.trans h'
   rw [if_pos h, h'] at h3
   refine ⟨by omega, (k + 1 : Nat), ⟨by simp, rfl⟩, ⟨by omega, by omega, ?_⟩, by omega⟩
   rw [hk.2.2, hd, h3]
   exact if_pos rfl
 ·have hge : ¬ k < l.length := by simpa using e
  rw [hk.2.2, List.drop_of_length_le (by omega)]
  rfl
theorem ok43 [Sx.Dr] : Ok Tryz.prog 43 cArrER := ok_of_wp mixed g68 (by kernel_rfl) (by kernel_rfl) (fun xx => ann0 (annArER xx.1)) fun xx => wp43 xx.1
abbrev G69 : Gam := (43, cArrER) :: G68
theorem g69 [Sx.Dr] : GamOk Tryz.prog G69 := .cons ok43 g68
set_option maxHeartbeats 20000000
def isEnd (e : ByteArray) (a : Arr) : Bool := a.2.1.toList == e.toList
def findA (e : ByteArray) (l : List Arr) : Option Arr := l.find? (isEnd e)
def idxGo (f : Arr → Bool) : List Arr → Nat → Int
 | [], _ => -1
 | a :: r, k => if f a = true then k else idxGo f r (k + 1)
theorem idx_find (f : Arr → Bool) : ∀ (l : List Arr) (k : Nat), (idxGo f l k = -1 ∧ l.find? f = none) ∨ ∃ i, i < l.length ∧ idxGo f l k = ((k + i : Nat) : Int) ∧ l.find? f = some (l.getD i dA)
 | [], k => .inl ⟨rfl, rfl⟩
 | a :: r, k => by
  simp only [idxGo]
  cases h : f a with
  | true => exact .inr ⟨0, by simp, by simp, by simp [h]⟩
  | false =>
   rcases idx_find f r (k + 1) with ⟨h1, h2⟩ | ⟨i, h1, h2, h3⟩
   ·exact .inl ⟨by simpa using h1, by simp [h, h2]⟩
   ·refine .inr ⟨i + 1, by simp only [List.length_cons]; omega, ?_, by simp [h, h3]⟩
    simp only [Bool.false_eq_true, if_false]
    rw [h2]; congr 1; omega
theorem idx_drop {f : Arr → Bool} {l : List Arr} {k : Nat} (h : k < l.length) : idxGo f (l.drop k) k = if f (l.getD k dA) = true then (k : Int) else idxGo f (l.drop (k + 1)) (k + 1) := by
 rw [drop_cons (d := dA) h]; rfl
def cIsEnd : Con := { args := [aA, .ref 9 .str], ress := [Bo], owns := [], pre := fun _ => [], spec := fun (a, e, _) => (isEnd e a, ()) }
theorem vc155 : ∀ (a : Arr) (e : ByteArray), wpF Tryz.prog G69 (na ()) Tryz.f155 cIsEnd (a, e, ()) = ((ByteArray.toList a.snd.fst == ByteArray.toList e) = isEnd e a) := by
 intros
 kernel_rfl
theorem wp155 (a : Arr) (e : ByteArray) : wpF Tryz.prog G69 (na ()) Tryz.f155 cIsEnd (a, e, ()) := by
 refine (vc155 a e).mpr ?_
 rfl
theorem ok155 [Sx.Dr] : Ok Tryz.prog 155 cIsEnd := ok_of_wp mixed g69 (by kernel_rfl) (by kernel_rfl) na fun xx => wp155 xx.1 xx.2.1
abbrev G70 : Gam := (155, cIsEnd) :: G69
theorem g70 [Sx.Dr] : GamOk Tryz.prog G70 := .cons ok155 g69
def cIdx : Con := { args := [.val false (.list 107 sArr), .fn [(true, sArr)] Bo], ress := [I], owns := [], pre := fun (l, (q, _), _) => [l.length ≤ 1000000, ∀ x ∈ l, conj (q (x, ()))], spec := fun (l, (_, f), _) => (idxGo (fun x => f (x, ())) l 0, ()) }
abbrev annIdx (l : List Arr) (q : Arr × Unit → List Prop) (f : Arr × Unit → Bool) : Ann := { X := Nat, σ := fun k => ⟨2, [(0, .one (.sl 0)), (1, .one (.fv 1)), (7, .one (.int .i64 l.length)), (8, .one (.int .i64 k))], [(0, .imm 107 sArr l), (1, .afn [(true, sArr)] Bo q f)]⟩, inv := fun k => k ≤ l.length ∧ idxGo (fun x => f (x, ())) l 0 = idxGo (fun x => f (x, ())) (l.drop k) k, mu := fun k => l.length - k }
def vc154_0 (l : List Arr) (q : Arr × Unit → List Prop) (f : Arr × Unit → Bool) := ((0 : Int), ByteArray.mk (Array.mk []), (0 : Int))
theorem vc154 : ∀ (l : List Arr) (q : Arr × Unit → List Prop) (f : Arr × Unit → Bool), wpF Tryz.prog G70 (ann0 (annIdx l q f)) Tryz.f154 cIdx (l, (q, f), ()) = (List.length l ≤ (1000000 : Nat) → (∀ (x : Int × ByteArray × Int), x ∈ l → conj (q (x, PUnit.unit))) → ∃ (x : Nat), ((↑(List.length l) : Int) = (↑(List.length l) : Int) ∧ (0 : Int) = (↑x : Int) ∧ l = l ∧ (fun (x : (Int × ByteArray × Int) × PUnit) => q x) = q ∧ (fun (x : (Int × ByteArray × Int) × PUnit) => f x) = f) ∧ (x ≤ List.length l ∧ idxGo (fun (x : Arr) => f (x, PUnit.unit)) l (0 : Nat) = idxGo (fun (x : Arr) => f (x, PUnit.unit)) (List.drop x l) x) ∧ ∀ (x : Nat), x ≤ List.length l ∧ idxGo (fun (x : Arr) => f (x, PUnit.unit)) l (0 : Nat) = idxGo (fun (x : Arr) => f (x, PUnit.unit)) (List.drop x l) x → (decide ((↑x : Int) < (↑(List.length l) : Int)) = true → (((0 : Int) ≤ (↑x : Int) ∧ (↑x : Int) < (↑(List.length l) : Int)) ∧ ((0 : Int) ≤ (↑x : Int) ∧ (↑x : Int) < (↑(List.length l) : Int)) ∧ conj (q (((List.getD l x (vc154_0 l q f)).fst, (List.getD l x (vc154_0 l q f)).snd.fst, (List.getD l x (vc154_0 l q f)).snd.snd), PUnit.unit))) ∧ (f (((List.getD l x (vc154_0 l q f)).fst, (List.getD l x (vc154_0 l q f)).snd.fst, (List.getD l x (vc154_0 l q f)).snd.snd), PUnit.unit) = true → (↑x : Int) = idxGo (fun (x : Arr) => f (x, PUnit.unit)) l (0 : Nat)) ∧ (f (((List.getD l x (vc154_0 l q f)).fst, (List.getD l x (vc154_0 l q f)).snd.fst, (List.getD l x (vc154_0 l q f)).snd.snd), PUnit.unit) = false → ((-9223372036854775808 : Int) ≤ (↑x : Int) + (1 : Int) ∧ (↑x : Int) + (1 : Int) ≤ (9223372036854775807 : Int)) ∧ ∃ (y : Nat), ((↑(List.length l) : Int) = (↑(List.length l) : Int) ∧ (↑x : Int) + (1 : Int) = (↑y : Int) ∧ l = l ∧ (fun (x : (Int × ByteArray × Int) × PUnit) => q x) = q ∧ (fun (x : (Int × ByteArray × Int) × PUnit) => f x) = f) ∧ (y ≤ List.length l ∧ idxGo (fun (x : Arr) => f (x, PUnit.unit)) l (0 : Nat) = idxGo (fun (x : Arr) => f (x, PUnit.unit)) (List.drop y l) y) ∧ List.length l - y < List.length l - x)) ∧ (decide ((↑x : Int) < (↑(List.length l) : Int)) = false → (-1 : Int) = idxGo (fun (x : Arr) => f (x, PUnit.unit)) l (0 : Nat))) := by
 intros
 kernel_rfl
theorem wp154 (l : List Arr) (q : Arr × Unit → List Prop) (f : Arr × Unit → Bool) : wpF Tryz.prog G70 (ann0 (annIdx l q f)) Tryz.f154 cIdx (l, (q, f), ()) := by
 refine (vc154 l q f).mpr ?_
 delta vc154_0
 intro h1 hq
 refine ⟨(0 : Nat), ⟨rfl, rfl, rfl, rfl, rfl⟩, ⟨Nat.zero_le _, rfl⟩, fun (k : Nat) hk => ⟨fun e => ?_, fun e => ?_⟩⟩
 ·have hlt : k < l.length := by simpa using e
  have hd := idx_drop (f := fun x => f (x, ())) hlt
  refine ⟨⟨by omega, by omega, hq (l.getD k dA) (getD_mem hlt)⟩, fun h => ?_, fun h => ?_⟩
  ·have h : f (l.getD k dA, ()) = true := h
   rw [hk.2, hd, if_pos h]
  ·have h : f (l.getD k dA, ()) = false := h
   refine ⟨by omega, (k + 1 : Nat), ⟨rfl, by simp, rfl, rfl, rfl⟩, ⟨by omega, ?_⟩, by omega⟩
   rw [hk.2, hd, if_neg (by rw [h]; decide)]
 ·have hge : ¬ k < l.length := by simpa using e
  rw [hk.2, List.drop_of_length_le (by omega)]
  rfl
theorem ok154 [Sx.Dr] : Ok Tryz.prog 154 cIdx := ok_of_wp mixed g70 (by kernel_rfl) (by kernel_rfl) (fun xx => ann0 (annIdx xx.1 xx.2.1.1 xx.2.1.2)) fun xx => wp154 xx.1 xx.2.1.1 xx.2.1.2
abbrev G71 : Gam := (154, cIdx) :: G70
theorem g71 [Sx.Dr] : GamOk Tryz.prog G71 := .cons ok154 g70
def cAt : Con := { args := [.val false (.list 107 sArr), aS], ress := [(true, sArr), Bo], owns := [], pre := fun (l, _) => [l.length ≤ 1000000], spec := fun (l, e, _) => ((findA e l).getD dA, (findA e l).isSome, ()) }
theorem vc115 : ∀ (l : List Arr) (e : ByteArray), wpF Tryz.prog G71 (na ()) Tryz.f115 cAt (l, e, ()) = (List.length l ≤ (1000000 : Nat) → (List.length l ≤ (1000000 : Nat) ∧ ∀ (x : Int × ByteArray × Int), x ∈ l → True) ∧ (decide (idxGo (fun (x : Arr) => isEnd e x) l (0 : Nat) < (0 : Int)) = true → ((0 : Int), ByteArray.mk (Array.mk []), (0 : Int)) = Option.getD (findA e l) dA ∧ false = Option.isSome (findA e l)) ∧ (decide (idxGo (fun (x : Arr) => isEnd e x) l (0 : Nat) < (0 : Int)) = false → (((0 : Int) ≤ idxGo (fun (x : Arr) => isEnd e x) l (0 : Nat) ∧ idxGo (fun (x : Arr) => isEnd e x) l (0 : Nat) < (↑(List.length l) : Int)) ∧ (0 : Int) ≤ idxGo (fun (x : Arr) => isEnd e x) l (0 : Nat) ∧ idxGo (fun (x : Arr) => isEnd e x) l (0 : Nat) < (↑(List.length l) : Int)) ∧ ((List.getD l (Int.toNat (idxGo (fun (x : Arr) => isEnd e x) l (0 : Nat))) ((0 : Int), ByteArray.mk (Array.mk []), (0 : Int))).fst, (List.getD l (Int.toNat (idxGo (fun (x : Arr) => isEnd e x) l (0 : Nat))) ((0 : Int), ByteArray.mk (Array.mk []), (0 : Int))).snd.fst, (List.getD l (Int.toNat (idxGo (fun (x : Arr) => isEnd e x) l (0 : Nat))) ((0 : Int), ByteArray.mk (Array.mk []), (0 : Int))).snd.snd) = Option.getD (findA e l) dA ∧ true = Option.isSome (findA e l))) := by
 intros
 kernel_rfl
theorem wp115 (l : List Arr) (e : ByteArray) : wpF Tryz.prog G71 (na ()) Tryz.f115 cAt (l, e, ()) := by
 refine (vc115 l e).mpr ?_
 intro h1
 have hi := idx_find (isEnd e) l 0
 have hf : findA e l = l.find? (isEnd e) := rfl
 rw [hf]
 refine ⟨⟨h1, fun _ _ => trivial⟩, fun h => ?_, fun h => ?_⟩
 ·have h : idxGo (isEnd e) l 0 < 0 := of_decide_eq_true h
  rcases hi with ⟨_, h2⟩ | ⟨i, _, h2, _⟩
  ·rw [h2]; exact ⟨rfl, rfl⟩
  ·rw [h2] at h; omega
 ·have h : ¬ idxGo (isEnd e) l 0 < 0 := of_decide_eq_false h
  rcases hi with ⟨h2, _⟩ | ⟨i, h3, h2, h4⟩
  ·rw [h2] at h; omega
  ·rw [Nat.zero_add] at h2
   have b : 0 ≤ idxGo (isEnd e) l 0 ∧ idxGo (isEnd e) l 0 < l.length := by rw [h2]; omega
   refine ⟨⟨b, b⟩, ?_, by rw [h4]; rfl⟩
   show l.getD (idxGo (isEnd e) l 0).toNat dA = _
   rw [h4, h2]; rfl
theorem ok115 [Sx.Dr] : Ok Tryz.prog 115 cAt := ok_of_wp mixed g71 (by kernel_rfl) (by kernel_rfl) na fun xx => wp115 xx.1 xx.2.1
abbrev G72 : Gam := (115, cAt) :: G71
theorem g72 [Sx.Dr] : GamOk Tryz.prog G72 := .cons ok115 g71
def firstE (l : List Arr) (e : ByteArray) : Int := firstS [arrE l, endS e]
def firstF (l : List Arr) (e : ByteArray) : Arr := if firstE l e = 0 then (findA e l).getD dA else dA
def firstEE (l : List Arr) (e : ByteArray) : Int := if firstE l e = 0 then (if (findA e l).isSome = true then 0 else 7) else firstE l e
def cFirstA : Con := { args := [.val false (.list 107 sArr), aS], ress := [(true, sArr), I], owns := [], pre := fun (l, _) => [l.length ≤ 1000000], spec := fun (l, e, _) => (firstF l e, firstEE l e, ()) }
theorem vc63 : ∀ (l : List Arr) (e : ByteArray), wpF Tryz.prog G72 (na ()) Tryz.f63 cFirstA (l, e, ()) = (List.length l ≤ (1000000 : Nat) → (List.length l ≤ (1000000 : Nat) ∧ (2 : Nat) ≤ (1000000 : Nat)) ∧ ((firstS [arrE l, endS e] != (0 : Int)) = true → ((0 : Int), ByteArray.mk (Array.mk []), (0 : Int)) = firstF l e ∧ firstS [arrE l, endS e] = firstEE l e) ∧ ((firstS [arrE l, endS e] != (0 : Int)) = false → List.length l ≤ (1000000 : Nat) ∧ ((Option.getD (findA e l) dA).fst, (Option.getD (findA e l) dA).snd.fst, (Option.getD (findA e l) dA).snd.snd) = firstF l e ∧ (bif !Option.isSome (findA e l) then (7 : Int) else (0 : Int)) = firstEE l e)) := by
 intros
 kernel_rfl
theorem wp63 (l : List Arr) (e : ByteArray) : wpF Tryz.prog G72 (na ()) Tryz.f63 cFirstA (l, e, ()) := by
 refine (vc63 l e).mpr ?_
 intro h1
 unfold firstF firstEE firstE
 refine ⟨⟨h1, by omega⟩, fun h => ?_, fun h => ?_⟩
 ·have h := bne_iff_ne.1 h
  rw [if_neg h, if_neg h]; exact ⟨rfl, rfl⟩
 ·have h := bne_eq_false_iff_eq.1 h
  rw [if_pos h, if_pos h]
  refine ⟨h1, rfl, ?_⟩
  cases (findA e l).isSome <;> rfl
theorem ok63 [Sx.Dr] : Ok Tryz.prog 63 cFirstA := ok_of_wp mixed g72 (by kernel_rfl) (by kernel_rfl) na fun xx => wp63 xx.1 xx.2.1
abbrev G73 : Gam := (63, cFirstA) :: G72
theorem g73 [Sx.Dr] : GamOk Tryz.prog G73 := .cons ok63 g72
def cFirstAR : Con := { args := [.val false (.list 130 sArr), aS], ress := [(true, sArr), I], owns := [], pre := fun (l, _) => [l.length ≤ 1000000], spec := fun (l, e, _) => ((findA e l).getD dA, if (findA e l).isSome = true then 0 else 7, ()) }
abbrev annFiR (l : List Arr) (e : ByteArray) : Ann := { X := Nat, σ := fun k => ⟨2, [(0, .one (.sl 0)), (1, .one (.str e)), (4, .one (.ptr 1 0)), (6, .one (.int .i64 k))], [(0, .imm 130 sArr l), (1, .box 130 [.int .i64 0, .str ⟨⟨[]⟩⟩, .int .i64 0])]⟩, inv := fun k => k ≤ l.length ∧ findA e l = findA e (l.drop k), mu := fun k => l.length - k }
theorem vc65 : ∀ (l : List Arr) (e : ByteArray), wpF Tryz.prog G73 (ann0 (annFiR l e)) Tryz.f65 cFirstAR (l, e, ()) = (List.length l ≤ (1000000 : Nat) → ∃ (x : Nat), (e = e ∧ (0 : Int) = (↑x : Int) ∧ l = l ∧ (0 : Int) = (0 : Int) ∧ ByteArray.mk (Array.mk []) = ByteArray.mk (Array.mk []) ∧ (0 : Int) = (0 : Int)) ∧ (x ≤ List.length l ∧ findA e l = findA e (List.drop x l)) ∧ ∀ (x : Nat), x ≤ List.length l ∧ findA e l = findA e (List.drop x l) → (decide ((↑x : Int) < (↑(List.length l) : Int)) = true → (((0 : Int) ≤ (↑x : Int) ∧ (↑x : Int) < (↑(List.length l) : Int)) ∧ (0 : Int) ≤ (↑x : Int) ∧ (↑x : Int) < (↑(List.length l) : Int)) ∧ ((ByteArray.toList (List.getD l x ((0 : Int), ByteArray.mk (Array.mk []), (0 : Int))).snd.fst == ByteArray.toList e) = true → (((0 : Int) ≤ (↑x : Int) ∧ (↑x : Int) < (↑(List.length l) : Int)) ∧ (0 : Int) ≤ (↑x : Int) ∧ (↑x : Int) < (↑(List.length l) : Int)) ∧ ((List.getD l x ((0 : Int), ByteArray.mk (Array.mk []), (0 : Int))).fst, (List.getD l x ((0 : Int), ByteArray.mk (Array.mk []), (0 : Int))).snd.fst, (List.getD l x ((0 : Int), ByteArray.mk (Array.mk []), (0 : Int))).snd.snd) = Option.getD (findA e l) dA ∧ (0 : Int) = if Option.isSome (findA e l) = true then (0 : Int) else (7 : Int)) ∧ ((ByteArray.toList (List.getD l x ((0 : Int), ByteArray.mk (Array.mk []), (0 : Int))).snd.fst == ByteArray.toList e) = false → ((-9223372036854775808 : Int) ≤ (↑x : Int) + (1 : Int) ∧ (↑x : Int) + (1 : Int) ≤ (9223372036854775807 : Int)) ∧ ∃ (y : Nat), (e = e ∧ (↑x : Int) + (1 : Int) = (↑y : Int) ∧ l = l ∧ (0 : Int) = (0 : Int) ∧ ByteArray.mk (Array.mk []) = ByteArray.mk (Array.mk []) ∧ (0 : Int) = (0 : Int)) ∧ (y ≤ List.length l ∧ findA e l = findA e (List.drop y l)) ∧ List.length l - y < List.length l - x)) ∧ (decide ((↑x : Int) < (↑(List.length l) : Int)) = false → ((0 : Int), ByteArray.mk (Array.mk []), (0 : Int)) = Option.getD (findA e l) dA ∧ (7 : Int) = if Option.isSome (findA e l) = true then (0 : Int) else (7 : Int))) := by
 intros
 kernel_rfl
theorem wp65 (l : List Arr) (e : ByteArray) : wpF Tryz.prog G73 (ann0 (annFiR l e)) Tryz.f65 cFirstAR (l, e, ()) := by
 refine (vc65 l e).mpr ?_
 intro h1
 refine ⟨(0 : Nat), ⟨rfl, rfl, rfl, rfl, rfl, rfl⟩, ⟨Nat.zero_le _, rfl⟩, fun (k : Nat) hk => ⟨fun h => ?_, fun h => ?_⟩⟩
 ·have hlt : k < l.length := by simpa using h
  have hd : findA e (l.drop k) = if isEnd e (l.getD k dA) = true then some (l.getD k dA) else findA e (l.drop (k + 1)) := by
   rw [drop_cons (d := dA) hlt]
   unfold findA
   rw [List.find?_cons]
   cases isEnd e (l.getD k dA) <;> rfl
  refine ⟨⟨by omega, by omega⟩, fun h2 => ?_, fun h2 => ?_⟩
  ·have h2 : isEnd e (l.getD k dA) = true := h2
   rw [if_pos h2] at hd
   rw [hk.2, hd]
   exact ⟨⟨by omega, by omega⟩, rfl, rfl⟩
  ·have h2 : isEnd e (l.getD k dA) = false := h2
   rw [if_neg (by rw [h2]; decide)] at hd
   refine ⟨by omega, (k + 1 : Nat), ⟨rfl, by simp, rfl, rfl, rfl, rfl⟩, ⟨by omega, ?_⟩, by omega⟩
   rw [hk.2, hd]
 ·have hge : ¬ k < l.length := by simpa using h
  rw [hk.2, List.drop_of_length_le (by omega)]
  exact ⟨rfl, rfl⟩
theorem ok65 [Sx.Dr] : Ok Tryz.prog 65 cFirstAR := ok_of_wp mixed g73 (by kernel_rfl) (by kernel_rfl) (fun xx => ann0 (annFiR xx.1 xx.2.1)) fun xx => wp65 xx.1 xx.2.1
abbrev G74 : Gam := (65, cFirstAR) :: G73
theorem g74 [Sx.Dr] : GamOk Tryz.prog G74 := .cons ok65 g73
set_option maxHeartbeats 20000000
def isA (e : ByteArray) : Bool := e.toList == sA.toList
def isB (e : ByteArray) : Bool := e.toList == sB.toList
theorem not_both (e : ByteArray) (h : isB e = true) : isA e = false := by
 have h : e.toList = sB.toList := eq_of_beq h
 unfold isA; rw [h, Lib.toList_data, Lib.toList_data]; rfl
def stepF (e : ByteArray) (s : Int) (i : Nat) (r : Int) (p : Int × Int) : Int × Int :=
 bif (bif isB e then decide (s ≤ (i : Int)) else false) then (p.1 * (8 + r), p.2 * 8) else bif (bif isA e then decide ((i : Int) < s) else false) then (p.1 * (8 - r), p.2 * 8) else p
def facGo (e : ByteArray) (s : Int) : Nat → List Int → Int × Int → Int × Int
 | _, [], p => p
 | i, r :: l, p => facGo e s (i + 1) l (stepF e s i r p)
def factS (c : Cab) (s : Int) (e : ByteArray) : Int × Int := facGo e s 0 c.2.1 (1, 1)
theorem fac_drop {e : ByteArray} {s : Int} {l : List Int} {k : Nat} {p : Int × Int} (h : k < l.length) : facGo e s k (l.drop k) p = facGo e s (k + 1) (l.drop (k + 1)) (stepF e s k (l.getD k 0) p) := by
 rw [drop_cons (d := (0 : Int)) h]; rfl
def facOk (k : Nat) (p : Int × Int) : Prop := (0 ≤ p.1 ∧ p.1 ≤ 16 ^ k) ∧ ∃ j, j ≤ k ∧ p.2 = 8 ^ j
theorem facOk_step {k i : Nat} {e : ByteArray} {s r : Int} {p : Int × Int} (h : facOk k p) (hr : -8 ≤ r ∧ r ≤ 8) : facOk (k + 1) (stepF e s i r p) := by
 obtain ⟨⟨h1, h2⟩, j, hj, h3⟩ := h
 have hp : (16 : Int) ^ (k + 1) = 16 ^ k * 16 := Int.pow_succ ..
 have h0 : (0 : Int) ≤ 16 ^ k := Int.le_trans h1 h2
 have key : ∀ q : Int, 0 ≤ q ∧ q ≤ 16 → facOk (k + 1) (p.1 * q, p.2 * 8) := fun q hq => by
  refine ⟨⟨Int.mul_nonneg h1 hq.1, ?_⟩, j + 1, by omega, ?_⟩
  ·rw [hp]; exact Int.mul_le_mul h2 hq.2 hq.1 h0
  ·show p.2 * 8 = _
   rw [h3, Int.pow_succ]
 unfold stepF
 cases (bif isB e then decide (s ≤ (i : Int)) else false) with
 | true => exact key (8 + r) (by omega)
 | false =>
  cases (bif isA e then decide ((i : Int) < s) else false) with
  | true => exact key (8 - r) (by omega)
  | false =>
   refine ⟨⟨h1, ?_⟩, j, by omega, h3⟩
   show p.1 ≤ _
   rw [hp]; omega
theorem pow16 {k : Nat} (h : k ≤ 5) : (16 : Int) ^ k ≤ 1048576 := by
 have : ∀ j, j < 6 → (16 : Int) ^ j ≤ 1048576 := by decide
 exact this k (by omega)
theorem pow8 {k : Nat} (h : k ≤ 5) : 1 ≤ (8 : Int) ^ k ∧ (8 : Int) ^ k ≤ 32768 := by
 have : ∀ j, j < 6 → 1 ≤ (8 : Int) ^ j ∧ (8 : Int) ^ j ≤ 32768 := by decide
 exact this k (by omega)
theorem facOk_bd {k : Nat} {p : Int × Int} (h : facOk k p) (hk : k ≤ 5) : (0 ≤ p.1 ∧ p.1 ≤ 1048576) ∧ 1 ≤ p.2 ∧ p.2 ≤ 32768 := by
 obtain ⟨⟨h1, h2⟩, j, hj, h3⟩ := h
 have := pow16 hk
 have := pow8 (k := j) (by omega)
 rw [h3]; omega
def cFact : Con := { args := [aC, aI, aS], ress := [I, I], owns := [], pre := fun (c, s, _) => [cabS c = 0, -1000 ≤ s ∧ s ≤ 1000], spec := fun (c, s, e, _) => ((factS c s e).1, (factS c s e).2, ()) }
abbrev annFact (c : Cab) (s : Int) (e : ByteArray) : Ann := { X := Nat × Int × Int, σ := fun p => ⟨3, [(1, .one (.int .i64 s)), (2, .one (.str e)), (8, .one (.int .i64 p.2.1)), (9, .one (.int .i64 p.2.2)), (13, .one (.sl 1)), (14, .one (.int .i64 c.2.1.length)), (15, .one (.int .i64 p.1))], [(1, .imm 3 sI c.2.1)]⟩, inv := fun p => p.1 ≤ c.2.1.length ∧ facOk p.1 p.2 ∧ factS c s e = facGo e s p.1 (c.2.1.drop p.1) p.2, mu := fun p => c.2.1.length - p.1 }
theorem vc116 : ∀ (c : Cab) (s : Int) (e : ByteArray), wpF Tryz.prog G74 (ann0 (annFact c s e)) Tryz.f116 cFact (c, s, e, ()) = (cabS c = (0 : Int) → (-1000 : Int) ≤ s ∧ s ≤ (1000 : Int) → ∃ (x : Nat × Int × Int), (s = s ∧ e = e ∧ (1 : Int) = x.snd.fst ∧ (1 : Int) = x.snd.snd ∧ (↑(List.length c.snd.fst) : Int) = (↑(List.length c.snd.fst) : Int) ∧ (0 : Int) = (↑x.fst : Int) ∧ c.snd.1 = c.snd.fst) ∧ (x.fst ≤ List.length c.snd.fst ∧ facOk x.fst x.snd ∧ factS c s e = facGo e s x.fst (List.drop x.fst c.snd.fst) x.snd) ∧ ∀ (x : Nat × Int × Int), x.fst ≤ List.length c.snd.fst ∧ facOk x.fst x.snd ∧ factS c s e = facGo e s x.fst (List.drop x.fst c.snd.fst) x.snd → (decide ((↑x.fst : Int) < (↑(List.length c.snd.fst) : Int)) = true → (((0 : Int) ≤ (↑x.fst : Int) ∧ (↑x.fst : Int) < (↑(List.length c.snd.fst) : Int)) ∧ (0 : Int) ≤ (↑x.fst : Int) ∧ (↑x.fst : Int) < (↑(List.length c.snd.fst) : Int)) ∧ ((bif ByteArray.toList e == ByteArray.toList (ByteArray.mk (Array.mk [(66 : UInt8)])) then decide (s ≤ (↑x.fst : Int)) else false) = true → (((-9223372036854775808 : Int) ≤ (8 : Int) + List.getD c.snd.fst x.fst (0 : Int) ∧ (8 : Int) + List.getD c.snd.fst x.fst (0 : Int) ≤ (9223372036854775807 : Int)) ∧ ((-9223372036854775808 : Int) ≤ x.snd.fst * ((8 : Int) + List.getD c.snd.fst x.fst (0 : Int)) ∧ x.snd.fst * ((8 : Int) + List.getD c.snd.fst x.fst (0 : Int)) ≤ (9223372036854775807 : Int)) ∧ (-9223372036854775808 : Int) ≤ x.snd.snd * (8 : Int) ∧ x.snd.snd * (8 : Int) ≤ (9223372036854775807 : Int)) ∧ ((-9223372036854775808 : Int) ≤ (↑x.fst : Int) + (1 : Int) ∧ (↑x.fst : Int) + (1 : Int) ≤ (9223372036854775807 : Int)) ∧ ∃ (y : Nat × Int × Int), (s = s ∧ e = e ∧ x.snd.fst * ((8 : Int) + List.getD c.snd.fst x.fst (0 : Int)) = y.snd.fst ∧ x.snd.snd * (8 : Int) = y.snd.snd ∧ (↑(List.length c.snd.fst) : Int) = (↑(List.length c.snd.fst) : Int) ∧ (↑x.fst : Int) + (1 : Int) = (↑y.fst : Int) ∧ c.snd.1 = c.snd.fst) ∧ (y.fst ≤ List.length c.snd.fst ∧ facOk y.fst y.snd ∧ factS c s e = facGo e s y.fst (List.drop y.fst c.snd.fst) y.snd) ∧ List.length c.snd.fst - y.fst < List.length c.snd.fst - x.fst) ∧ ((bif ByteArray.toList e == ByteArray.toList (ByteArray.mk (Array.mk [(66 : UInt8)])) then decide (s ≤ (↑x.fst : Int)) else false) = false → ((bif ByteArray.toList e == ByteArray.toList (ByteArray.mk (Array.mk [(65 : UInt8)])) then decide ((↑x.fst : Int) < s) else false) = true → (((-9223372036854775808 : Int) ≤ (8 : Int) - List.getD c.snd.fst x.fst (0 : Int) ∧ (8 : Int) - List.getD c.snd.fst x.fst (0 : Int) ≤ (9223372036854775807 : Int)) ∧ ((-9223372036854775808 : Int) ≤ x.snd.fst * ((8 : Int) - List.getD c.snd.fst x.fst (0 : Int)) ∧ x.snd.fst * ((8 : Int) - List.getD c.snd.fst x.fst (0 : Int)) ≤ (9223372036854775807 : Int)) ∧ (-9223372036854775808 : Int) ≤ x.snd.snd * (8 : Int) ∧ x.snd.snd * (8 : Int) ≤ (9223372036854775807 : Int)) ∧ ((-9223372036854775808 : Int) ≤ (↑x.fst : Int) + (1 : Int) ∧ (↑x.fst : Int) + (1 : Int) ≤ (9223372036854775807 : Int)) ∧ ∃ (y : Nat × Int × Int), (s = s ∧ e = e ∧ x.snd.fst * ((8 : Int) - List.getD c.snd.fst x.fst (0 : Int)) = y.snd.fst ∧ x.snd.snd * (8 : Int) = y.snd.snd ∧ (↑(List.length c.snd.fst) : Int) = (↑(List.length c.snd.fst) : Int) ∧ (↑x.fst : Int) + (1 : Int) = (↑y.fst : Int) ∧ c.snd.1 = c.snd.fst) ∧ (y.fst ≤ List.length c.snd.fst ∧ facOk y.fst y.snd ∧ factS c s e = facGo e s y.fst (List.drop y.fst c.snd.fst) y.snd) ∧ List.length c.snd.fst - y.fst < List.length c.snd.fst - x.fst) ∧ ((bif ByteArray.toList e == ByteArray.toList (ByteArray.mk (Array.mk [(65 : UInt8)])) then decide ((↑x.fst : Int) < s) else false) = false → ((-9223372036854775808 : Int) ≤ (↑x.fst : Int) + (1 : Int) ∧ (↑x.fst : Int) + (1 : Int) ≤ (9223372036854775807 : Int)) ∧ ∃ (y : Nat × Int × Int), (s = s ∧ e = e ∧ x.snd.fst = y.snd.fst ∧ x.snd.snd = y.snd.snd ∧ (↑(List.length c.snd.fst) : Int) = (↑(List.length c.snd.fst) : Int) ∧ (↑x.fst : Int) + (1 : Int) = (↑y.fst : Int) ∧ c.snd.1 = c.snd.fst) ∧ (y.fst ≤ List.length c.snd.fst ∧ facOk y.fst y.snd ∧ factS c s e = facGo e s y.fst (List.drop y.fst c.snd.fst) y.snd) ∧ List.length c.snd.fst - y.fst < List.length c.snd.fst - x.fst))) ∧ (decide ((↑x.fst : Int) < (↑(List.length c.snd.fst) : Int)) = false → x.snd.fst = (factS c s e).fst ∧ x.snd.snd = (factS c s e).snd)) := by
 intros
 kernel_rfl
theorem wp116 (c : Cab) (s : Int) (e : ByteArray) : wpF Tryz.prog G74 (ann0 (annFact c s e)) Tryz.f116 cFact (c, s, e, ()) := by
 refine (vc116 c s e).mpr ?_
 intro h hs
 have hv : cabV c := cabS_V h
 obtain ⟨v1, v2, v3, v4, v5, _⟩ := id hv
 refine ⟨((0 : Nat), (1 : Int), (1 : Int)), ⟨rfl, rfl, rfl, rfl, rfl, rfl, rfl⟩, ⟨Nat.zero_le _, ⟨⟨by decide, by decide⟩, 0, Nat.le_refl _, rfl⟩, rfl⟩, fun p hp => ?_⟩
 obtain ⟨k, n, d⟩ := p
 obtain ⟨i1, i2, i3⟩ := hp
 replace i1 : k ≤ c.2.1.length := i1
 replace i2 : facOk k (n, d) := i2
 replace i3 : factS c s e = facGo e s k (c.2.1.drop k) (n, d) := i3
 refine ⟨fun e1 => ?_, fun e1 => ?_⟩
 ·have hlt : k < c.2.1.length := by
   have e1 : (k : Int) < c.2.1.length := of_decide_eq_true e1
   omega
  have hr := v5 _ (getD_mem (d := (0 : Int)) hlt)
  have hd := fac_drop (e := e) (s := s) (p := (n, d)) hlt
  have ho := facOk_step (i := k) (e := e) (s := s) i2 hr
  have hb := facOk_bd ho (by omega)
  rw [hd] at i3
  have kk : 0 ≤ (k : Int) ∧ (k : Int) < c.2.1.length := by omega
  have kb : -9223372036854775808 ≤ (k : Int) + 1 ∧ (k : Int) + 1 ≤ 9223372036854775807 := by omega
  dsimp only
  refine ⟨⟨kk, kk⟩, fun c1 => ?_, fun c1 => ⟨fun c2 => ?_, fun c2 => ?_⟩⟩
  ·have c1 : (bif isB e then decide (s ≤ (k : Int)) else false) = true := c1
   have es : stepF e s k (c.2.1.getD k 0) (n, d) = (n * (8 + c.2.1.getD k 0), d * 8) := by unfold stepF; rw [c1]; rfl
   rw [es] at ho hb i3
   dsimp only at hb
   exact ⟨⟨by omega, ⟨by omega, by omega⟩, by omega, by omega⟩, kb, (k + 1, n * (8 + c.2.1.getD k 0), d * 8), ⟨rfl, rfl, rfl, rfl, rfl, by simp, rfl⟩, ⟨hlt, ho, i3⟩, by show c.2.1.length - (k + 1) < c.2.1.length - k; omega⟩
  ·have c1 : (bif isB e then decide (s ≤ (k : Int)) else false) = false := c1
   have c2 : (bif isA e then decide ((k : Int) < s) else false) = true := c2
   have es : stepF e s k (c.2.1.getD k 0) (n, d) = (n * (8 - c.2.1.getD k 0), d * 8) := by unfold stepF; rw [c1, c2]; rfl
   rw [es] at ho hb i3
   dsimp only at hb
   exact ⟨⟨by omega, ⟨by omega, by omega⟩, by omega, by omega⟩, kb, (k + 1, n * (8 - c.2.1.getD k 0), d * 8), ⟨rfl, rfl, rfl, rfl, rfl, by simp, rfl⟩, ⟨hlt, ho, i3⟩, by show c.2.1.length - (k + 1) < c.2.1.length - k; omega⟩
  ·have c1 : (bif isB e then decide (s ≤ (k : Int)) else false) = false := c1
   have c2 : (bif isA e then decide ((k : Int) < s) else false) = false := c2
   have es : stepF e s k (c.2.1.getD k 0) (n, d) = (n, d) := by unfold stepF; rw [c1, c2]; rfl
   rw [es] at ho i3
   exact ⟨kb, (k + 1, n, d), ⟨rfl, rfl, rfl, rfl, rfl, by simp, rfl⟩, ⟨hlt, ho, i3⟩, by show c.2.1.length - (k + 1) < c.2.1.length - k; omega⟩
 ·have hge : ¬ k < c.2.1.length := by
   have e1 : ¬ (k : Int) < c.2.1.length := of_decide_eq_false e1
   omega
  rw [i3, List.drop_of_length_le (by omega)]
  exact ⟨rfl, rfl⟩
theorem ok116 [Sx.Dr] : Ok Tryz.prog 116 cFact := ok_of_wp mixed g74 (by kernel_rfl) (by kernel_rfl) (fun xx => ann0 (annFact xx.1 xx.2.1 xx.2.2.1)) fun xx => wp116 xx.1 xx.2.1 xx.2.2.1
abbrev G75 : Gam := (116, cFact) :: G74
theorem g75 [Sx.Dr] : GamOk Tryz.prog G75 := .cons ok116 g74
def cFactR : Con := { args := [aCR, aI, aS], ress := [I, I], owns := [], pre := fun (c, s, _) => [cabS c = 0, -1000 ≤ s ∧ s ≤ 1000], spec := fun (c, s, e, _) => ((factS c s e).1, (factS c s e).2, ()) }
abbrev annFactR (c : Cab) (s : Int) (e : ByteArray) : Ann := { X := Nat × Int × Int, σ := fun p => ⟨3, [(1, .one (.int .i64 s)), (2, .one (.str e)), (3, .one (.ptr 2 0)), (8, .one (.int .i64 p.2.1)), (9, .one (.int .i64 p.2.2)), (10, .one (.int .i64 (p.1 + 1)))], [(0, .imm 102 sPt c.1), (1, .imm 3 sI c.2.1), (2, .box 26 [.sl 0, .sl 1, .int .i64 c.2.2.1, .int .i64 c.2.2.2])]⟩, inv := fun p => p.1 ≤ c.2.1.length ∧ facOk p.1 p.2 ∧ factS c s e = facGo e s p.1 (c.2.1.drop p.1) p.2, mu := fun p => c.2.1.length - p.1 }
theorem vc122 : ∀ (c : Cab) (s : Int) (e : ByteArray), wpF Tryz.prog G75 (ann0 (annFactR c s e)) Tryz.f122 cFactR (c, s, e, ()) = (cabS c = (0 : Int) → (-1000 : Int) ≤ s ∧ s ≤ (1000 : Int) → ∃ (x : Nat × Int × Int), (s = s ∧ e = e ∧ (1 : Int) = x.snd.fst ∧ (1 : Int) = x.snd.snd ∧ (1 : Int) = (↑x.fst : Int) + (1 : Int) ∧ c.1 = c.fst ∧ c.snd.1 = c.snd.fst ∧ c.snd.snd.fst = c.snd.snd.fst ∧ c.snd.snd.snd = c.snd.snd.snd) ∧ (x.fst ≤ List.length c.snd.fst ∧ facOk x.fst x.snd ∧ factS c s e = facGo e s x.fst (List.drop x.fst c.snd.fst) x.snd) ∧ ∀ (x : Nat × Int × Int), x.fst ≤ List.length c.snd.fst ∧ facOk x.fst x.snd ∧ factS c s e = facGo e s x.fst (List.drop x.fst c.snd.fst) x.snd → (decide ((↑x.fst : Int) + (1 : Int) < (↑(List.length c.fst) : Int)) = true → ((bif ByteArray.toList e == ByteArray.toList (ByteArray.mk (Array.mk [(66 : UInt8)])) then decide (s < (↑x.fst : Int) + (1 : Int)) else false) = true → (((-9223372036854775808 : Int) ≤ (↑x.fst : Int) + (1 : Int) - (1 : Int) ∧ (↑x.fst : Int) + (1 : Int) - (1 : Int) ≤ (9223372036854775807 : Int)) ∧ ((0 : Int) ≤ (↑x.fst : Int) + (1 : Int) - (1 : Int) ∧ (↑x.fst : Int) + (1 : Int) - (1 : Int) < (↑(List.length c.snd.fst) : Int)) ∧ ((0 : Int) ≤ (↑x.fst : Int) + (1 : Int) - (1 : Int) ∧ (↑x.fst : Int) + (1 : Int) - (1 : Int) < (↑(List.length c.snd.fst) : Int)) ∧ ((-9223372036854775808 : Int) ≤ (8 : Int) + List.getD c.snd.fst (Int.toNat ((↑x.fst : Int) + (1 : Int) - (1 : Int))) (0 : Int) ∧ (8 : Int) + List.getD c.snd.fst (Int.toNat ((↑x.fst : Int) + (1 : Int) - (1 : Int))) (0 : Int) ≤ (9223372036854775807 : Int)) ∧ ((-9223372036854775808 : Int) ≤ x.snd.fst * ((8 : Int) + List.getD c.snd.fst (Int.toNat ((↑x.fst : Int) + (1 : Int) - (1 : Int))) (0 : Int)) ∧ x.snd.fst * ((8 : Int) + List.getD c.snd.fst (Int.toNat ((↑x.fst : Int) + (1 : Int) - (1 : Int))) (0 : Int)) ≤ (9223372036854775807 : Int)) ∧ (-9223372036854775808 : Int) ≤ x.snd.snd * (8 : Int) ∧ x.snd.snd * (8 : Int) ≤ (9223372036854775807 : Int)) ∧ ((bif ByteArray.toList e == ByteArray.toList (ByteArray.mk (Array.mk [(65 : UInt8)])) then decide ((↑x.fst : Int) + (1 : Int) ≤ s) else false) = true → (((-9223372036854775808 : Int) ≤ (↑x.fst : Int) + (1 : Int) - (1 : Int) ∧ (↑x.fst : Int) + (1 : Int) - (1 : Int) ≤ (9223372036854775807 : Int)) ∧ ((0 : Int) ≤ (↑x.fst : Int) + (1 : Int) - (1 : Int) ∧ (↑x.fst : Int) + (1 : Int) - (1 : Int) < (↑(List.length c.snd.fst) : Int)) ∧ ((0 : Int) ≤ (↑x.fst : Int) + (1 : Int) - (1 : Int) ∧ (↑x.fst : Int) + (1 : Int) - (1 : Int) < (↑(List.length c.snd.fst) : Int)) ∧ ((-9223372036854775808 : Int) ≤ (8 : Int) - List.getD c.snd.fst (Int.toNat ((↑x.fst : Int) + (1 : Int) - (1 : Int))) (0 : Int) ∧ (8 : Int) - List.getD c.snd.fst (Int.toNat ((↑x.fst : Int) + (1 : Int) - (1 : Int))) (0 : Int) ≤ (9223372036854775807 : Int)) ∧ ((-9223372036854775808 : Int) ≤ x.snd.fst * ((8 : Int) + List.getD c.snd.fst (Int.toNat ((↑x.fst : Int) + (1 : Int) - (1 : Int))) (0 : Int)) * ((8 : Int) - List.getD c.snd.fst (Int.toNat ((↑x.fst : Int) + (1 : Int) - (1 : Int))) (0 : Int)) ∧ x.snd.fst * ((8 : Int) + List.getD c.snd.fst (Int.toNat ((↑x.fst : Int) + (1 : Int) - (1 : Int))) (0 : Int)) * ((8 : Int) - List.getD c.snd.fst (Int.toNat ((↑x.fst : Int) + (1 : Int) - (1 : Int))) (0 : Int)) ≤ (9223372036854775807 : Int)) ∧ (-9223372036854775808 : Int) ≤ x.snd.snd * (8 : Int) * (8 : Int) ∧ x.snd.snd * (8 : Int) * (8 : Int) ≤ (9223372036854775807 : Int)) ∧ ((-9223372036854775808 : Int) ≤ (↑x.fst : Int) + (1 : Int) + (1 : Int) ∧ (↑x.fst : Int) + (1 : Int) + (1 : Int) ≤ (9223372036854775807 : Int)) ∧ ∃ (y : Nat × Int × Int), (s = s ∧ e = e ∧ x.snd.fst * ((8 : Int) + List.getD c.snd.fst (Int.toNat ((↑x.fst : Int) + (1 : Int) - (1 : Int))) (0 : Int)) * ((8 : Int) - List.getD c.snd.fst (Int.toNat ((↑x.fst : Int) + (1 : Int) - (1 : Int))) (0 : Int)) = y.snd.fst ∧ x.snd.snd * (8 : Int) * (8 : Int) = y.snd.snd ∧ (↑x.fst : Int) + (1 : Int) + (1 : Int) = (↑y.fst : Int) + (1 : Int) ∧ c.1 = c.fst ∧ c.snd.1 = c.snd.fst ∧ c.snd.snd.fst = c.snd.snd.fst ∧ c.snd.snd.snd = c.snd.snd.snd) ∧ (y.fst ≤ List.length c.snd.fst ∧ facOk y.fst y.snd ∧ factS c s e = facGo e s y.fst (List.drop y.fst c.snd.fst) y.snd) ∧ List.length c.snd.fst - y.fst < List.length c.snd.fst - x.fst) ∧ ((bif ByteArray.toList e == ByteArray.toList (ByteArray.mk (Array.mk [(65 : UInt8)])) then decide ((↑x.fst : Int) + (1 : Int) ≤ s) else false) = false → ((-9223372036854775808 : Int) ≤ (↑x.fst : Int) + (1 : Int) + (1 : Int) ∧ (↑x.fst : Int) + (1 : Int) + (1 : Int) ≤ (9223372036854775807 : Int)) ∧ ∃ (y : Nat × Int × Int), (s = s ∧ e = e ∧ x.snd.fst * ((8 : Int) + List.getD c.snd.fst (Int.toNat ((↑x.fst : Int) + (1 : Int) - (1 : Int))) (0 : Int)) = y.snd.fst ∧ x.snd.snd * (8 : Int) = y.snd.snd ∧ (↑x.fst : Int) + (1 : Int) + (1 : Int) = (↑y.fst : Int) + (1 : Int) ∧ c.1 = c.fst ∧ c.snd.1 = c.snd.fst ∧ c.snd.snd.fst = c.snd.snd.fst ∧ c.snd.snd.snd = c.snd.snd.snd) ∧ (y.fst ≤ List.length c.snd.fst ∧ facOk y.fst y.snd ∧ factS c s e = facGo e s y.fst (List.drop y.fst c.snd.fst) y.snd) ∧ List.length c.snd.fst - y.fst < List.length c.snd.fst - x.fst)) ∧ ((bif ByteArray.toList e == ByteArray.toList (ByteArray.mk (Array.mk [(66 : UInt8)])) then decide (s < (↑x.fst : Int) + (1 : Int)) else false) = false → ((bif ByteArray.toList e == ByteArray.toList (ByteArray.mk (Array.mk [(65 : UInt8)])) then decide ((↑x.fst : Int) + (1 : Int) ≤ s) else false) = true → (((-9223372036854775808 : Int) ≤ (↑x.fst : Int) + (1 : Int) - (1 : Int) ∧ (↑x.fst : Int) + (1 : Int) - (1 : Int) ≤ (9223372036854775807 : Int)) ∧ ((0 : Int) ≤ (↑x.fst : Int) + (1 : Int) - (1 : Int) ∧ (↑x.fst : Int) + (1 : Int) - (1 : Int) < (↑(List.length c.snd.fst) : Int)) ∧ ((0 : Int) ≤ (↑x.fst : Int) + (1 : Int) - (1 : Int) ∧ (↑x.fst : Int) + (1 : Int) - (1 : Int) < (↑(List.length c.snd.fst) : Int)) ∧ ((-9223372036854775808 : Int) ≤ (8 : Int) - List.getD c.snd.fst (Int.toNat ((↑x.fst : Int) + (1 : Int) - (1 : Int))) (0 : Int) ∧ (8 : Int) - List.getD c.snd.fst (Int.toNat ((↑x.fst : Int) + (1 : Int) - (1 : Int))) (0 : Int) ≤ (9223372036854775807 : Int)) ∧ ((-9223372036854775808 : Int) ≤ x.snd.fst * ((8 : Int) - List.getD c.snd.fst (Int.toNat ((↑x.fst : Int) + (1 : Int) - (1 : Int))) (0 : Int)) ∧ x.snd.fst * ((8 : Int) - List.getD c.snd.fst (Int.toNat ((↑x.fst : Int) + (1 : Int) - (1 : Int))) (0 : Int)) ≤ (9223372036854775807 : Int)) ∧ (-9223372036854775808 : Int) ≤ x.snd.snd * (8 : Int) ∧ x.snd.snd * (8 : Int) ≤ (9223372036854775807 : Int)) ∧ ((-9223372036854775808 : Int) ≤ (↑x.fst : Int) + (1 : Int) + (1 : Int) ∧ (↑x.fst : Int) + (1 : Int) + (1 : Int) ≤ (9223372036854775807 : Int)) ∧ ∃ (y : Nat × Int × Int), (s = s ∧ e = e ∧ x.snd.fst * ((8 : Int) - List.getD c.snd.fst (Int.toNat ((↑x.fst : Int) + (1 : Int) - (1 : Int))) (0 : Int)) = y.snd.fst ∧ x.snd.snd * (8 : Int) = y.snd.snd ∧ (↑x.fst : Int) + (1 : Int) + (1 : Int) = (↑y.fst : Int) + (1 : Int) ∧ c.1 = c.fst ∧ c.snd.1 = c.snd.fst ∧ c.snd.snd.fst = c.snd.snd.fst ∧ c.snd.snd.snd = c.snd.snd.snd) ∧ (y.fst ≤ List.length c.snd.fst ∧ facOk y.fst y.snd ∧ factS c s e = facGo e s y.fst (List.drop y.fst c.snd.fst) y.snd) ∧ List.length c.snd.fst - y.fst < List.length c.snd.fst - x.fst) ∧ ((bif ByteArray.toList e == ByteArray.toList (ByteArray.mk (Array.mk [(65 : UInt8)])) then decide ((↑x.fst : Int) + (1 : Int) ≤ s) else false) = false → ((-9223372036854775808 : Int) ≤ (↑x.fst : Int) + (1 : Int) + (1 : Int) ∧ (↑x.fst : Int) + (1 : Int) + (1 : Int) ≤ (9223372036854775807 : Int)) ∧ ∃ (y : Nat × Int × Int), (s = s ∧ e = e ∧ x.snd.fst = y.snd.fst ∧ x.snd.snd = y.snd.snd ∧ (↑x.fst : Int) + (1 : Int) + (1 : Int) = (↑y.fst : Int) + (1 : Int) ∧ c.1 = c.fst ∧ c.snd.1 = c.snd.fst ∧ c.snd.snd.fst = c.snd.snd.fst ∧ c.snd.snd.snd = c.snd.snd.snd) ∧ (y.fst ≤ List.length c.snd.fst ∧ facOk y.fst y.snd ∧ factS c s e = facGo e s y.fst (List.drop y.fst c.snd.fst) y.snd) ∧ List.length c.snd.fst - y.fst < List.length c.snd.fst - x.fst))) ∧ (decide ((↑x.fst : Int) + (1 : Int) < (↑(List.length c.fst) : Int)) = false → x.snd.fst = (factS c s e).fst ∧ x.snd.snd = (factS c s e).snd)) := by
 intros
 kernel_rfl
theorem wp122 (c : Cab) (s : Int) (e : ByteArray) : wpF Tryz.prog G75 (ann0 (annFactR c s e)) Tryz.f122 cFactR (c, s, e, ()) := by
 refine (vc122 c s e).mpr ?_
 intro h hs
 have hv : cabV c := cabS_V h
 obtain ⟨v1, v2, v3, v4, v5, _⟩ := id hv
 refine ⟨((0 : Nat), (1 : Int), (1 : Int)), ⟨rfl, rfl, rfl, rfl, rfl, rfl, rfl, rfl, rfl⟩, ⟨Nat.zero_le _, ⟨⟨by decide, by decide⟩, 0, Nat.le_refl _, rfl⟩, rfl⟩, fun p hp => ?_⟩
 obtain ⟨k, n, d⟩ := p
 obtain ⟨i1, i2, i3⟩ := hp
 replace i1 : k ≤ c.2.1.length := i1
 replace i2 : facOk k (n, d) := i2
 replace i3 : factS c s e = facGo e s k (c.2.1.drop k) (n, d) := i3
 refine ⟨fun e1 => ?_, fun e1 => ?_⟩
 ·have hlt : k < c.2.1.length := by
   have e1 : (k : Int) + 1 < c.1.length := of_decide_eq_true e1
   omega
  have hr := v5 _ (getD_mem (d := (0 : Int)) hlt)
  have hd := fac_drop (e := e) (s := s) (p := (n, d)) hlt
  have ho := facOk_step (i := k) (e := e) (s := s) i2 hr
  have hb := facOk_bd ho (by omega)
  rw [hd] at i3
  have kn : ((k : Int) + 1 - 1).toNat = k := by omega
  have kk : 0 ≤ (k : Int) + 1 - 1 ∧ (k : Int) + 1 - 1 < c.2.1.length := by omega
  have km : -9223372036854775808 ≤ (k : Int) + 1 - 1 ∧ (k : Int) + 1 - 1 ≤ 9223372036854775807 := by omega
  have kb : -9223372036854775808 ≤ (k : Int) + 1 + 1 ∧ (k : Int) + 1 + 1 ≤ 9223372036854775807 := by omega
  have eB : (bif isB e then decide (s < (k : Int) + 1) else false) = (bif isB e then decide (s ≤ (k : Int)) else false) := by
   have : decide (s < (k : Int) + 1) = decide (s ≤ (k : Int)) := decide_eq_decide.2 (by omega)
   rw [this]
  have eA : (bif isA e then decide ((k : Int) + 1 ≤ s) else false) = (bif isA e then decide ((k : Int) < s) else false) := by
   have : decide ((k : Int) + 1 ≤ s) = decide ((k : Int) < s) := decide_eq_decide.2 (by omega)
   rw [this]
  dsimp only
  rw [kn]
  refine ⟨fun c1 => ?_, fun c1 => ⟨fun c2 => ?_, fun c2 => ?_⟩⟩
  ·have c1 : (bif isB e then decide (s ≤ (k : Int)) else false) = true := eB.symm.trans c1
   have es : stepF e s k (c.2.1.getD k 0) (n, d) = (n * (8 + c.2.1.getD k 0), d * 8) := by unfold stepF; rw [c1]; rfl
   rw [es] at ho hb i3
   dsimp only at hb
   have hBe : isB e = true := by cases hq : isB e with
    | true => rfl
    | false => rw [hq] at c1; cases c1
   refine ⟨⟨km, kk, kk, by omega, ⟨by omega, by omega⟩, by omega, by omega⟩, fun c2 => ?_, fun c2 => ?_⟩
   ·have c2 : (bif isA e then decide ((k : Int) + 1 ≤ s) else false) = true := c2
    rw [not_both e hBe] at c2
    cases c2
   ·exact ⟨kb, (k + 1, n * (8 + c.2.1.getD k 0), d * 8), ⟨rfl, rfl, rfl, rfl, by simp, rfl, rfl, rfl, rfl⟩, ⟨hlt, ho, i3⟩, by show c.2.1.length - (k + 1) < c.2.1.length - k; omega⟩
  ·have c1 : (bif isB e then decide (s ≤ (k : Int)) else false) = false := eB.symm.trans c1
   have c2 : (bif isA e then decide ((k : Int) < s) else false) = true := eA.symm.trans c2
   have es : stepF e s k (c.2.1.getD k 0) (n, d) = (n * (8 - c.2.1.getD k 0), d * 8) := by unfold stepF; rw [c1, c2]; rfl
   rw [es] at ho hb i3
   dsimp only at hb
   exact ⟨⟨km, kk, kk, by omega, ⟨by omega, by omega⟩, by omega, by omega⟩, kb, (k + 1, n * (8 - c.2.1.getD k 0), d * 8), ⟨rfl, rfl, rfl, rfl, by simp, rfl, rfl, rfl, rfl⟩, ⟨hlt, ho, i3⟩, by show c.2.1.length - (k + 1) < c.2.1.length - k; omega⟩
  ·have c1 : (bif isB e then decide (s ≤ (k : Int)) else false) = false := eB.symm.trans c1
   have c2 : (bif isA e then decide ((k : Int) < s) else false) = false := eA.symm.trans c2
   have es : stepF e s k (c.2.1.getD k 0) (n, d) = (n, d) := by unfold stepF; rw [c1, c2]; rfl
   rw [es] at ho i3
   exact ⟨kb, (k + 1, n, d), ⟨rfl, rfl, rfl, rfl, by simp, rfl, rfl, rfl, rfl⟩, ⟨hlt, ho, i3⟩, by show c.2.1.length - (k + 1) < c.2.1.length - k; omega⟩
 ·have hge : ¬ k < c.2.1.length := by
   have e1 : ¬ (k : Int) + 1 < c.1.length := of_decide_eq_false e1
   omega
  rw [i3, List.drop_of_length_le (by omega)]
  exact ⟨rfl, rfl⟩
theorem ok122 [Sx.Dr] : Ok Tryz.prog 122 cFactR := ok_of_wp mixed g75 (by kernel_rfl) (by kernel_rfl) (fun xx => ann0 (annFactR xx.1 xx.2.1 xx.2.2.1)) fun xx => wp122 xx.1 xx.2.1 xx.2.2.1
abbrev G76 : Gam := (122, cFactR) :: G75
theorem g76 [Sx.Dr] : GamOk Tryz.prog G76 := .cons ok122 g75
set_option maxHeartbeats 20000000
def factorE (c : Cab) (s : Int) (e : ByteArray) : Int := firstS [cabS c, secE c s, endS e]
def factorG (c : Cab) (s : Int) (e : ByteArray) : Int × Int := lowestS (factS c s e).1 (factS c s e).2
def factorF (c : Cab) (s : Int) (e : ByteArray) : Int × Int := if factorE c s e = 0 then factorG c s e else (0, 0)
theorem facGo_ok {e : ByteArray} {s : Int} : ∀ {l : List Int} {i k : Nat} {p : Int × Int}, facOk k p → (∀ r ∈ l, -8 ≤ r ∧ r ≤ 8) → facOk (k + l.length) (facGo e s i l p)
 | [], _, _, _, h, _ => h
 | r :: l, i, k, p, h, hl => by
  have := facGo_ok (e := e) (s := s) (l := l) (i := i + 1) (facOk_step (i := i) (e := e) (s := s) h (hl r (by simp))) fun x hx => hl x (by simp [hx])
  rw [show k + 1 + l.length = k + (r :: l).length by simp only [List.length_cons]; omega] at this
  exact this
theorem factS_ok {c : Cab} {s : Int} {e : ByteArray} (hv : cabV c) : facOk c.2.1.length (factS c s e) := by
 have := facGo_ok (e := e) (s := s) (l := c.2.1) (i := 0) (k := 0) (p := (1, 1)) ⟨⟨by decide, by decide⟩, 0, Nat.le_refl _, rfl⟩ hv.2.2.2.2.1
 rwa [Nat.zero_add] at this
theorem factS_bd {c : Cab} {s : Int} {e : ByteArray} (hv : cabV c) : (0 ≤ (factS c s e).1 ∧ (factS c s e).1 ≤ 1048576) ∧ 1 ≤ (factS c s e).2 ∧ (factS c s e).2 ≤ 32768 :=
 facOk_bd (factS_ok hv) (by have := hv.2.1; have := hv.2.2.2.1; omega)
theorem factorE_zero {c : Cab} {s : Int} {e : ByteArray} (h : factorE c s e = 0) : cabS c = 0 ∧ (0 ≤ s ∧ s < c.1.length) ∧ endS e = 0 := by
 have hz := firstS_zero (show firstS [cabS c, secE c s, endS e] = 0 from h)
 simp only [List.mem_cons, List.not_mem_nil, or_false, forall_eq_or_imp, forall_eq] at hz
 exact ⟨hz.1, secE_zero.1 hz.2.1, hz.2.2⟩
def cFactor : Con := { args := [aC, aI, aS], ress := [Pr, I], owns := [], pre := fun (c, _) => [c.1.length ≤ 1000000, c.2.1.length ≤ 1000000], spec := fun (c, s, e, _) => (factorF c s e, factorE c s e, ()) }
def vc57_0 (c : Cab) (s : Int) (e : ByteArray) := (c.1, c.snd.1, c.snd.snd.fst, c.snd.snd.snd)
theorem vc57 : ∀ (c : Cab) (s : Int) (e : ByteArray), wpF Tryz.prog G76 (na ()) Tryz.f57 cFactor (c, s, e, ()) = (List.length c.fst ≤ (1000000 : Nat) → List.length c.snd.fst ≤ (1000000 : Nat) → (List.length c.1 ≤ (1000000 : Nat) ∧ List.length c.snd.1 ≤ (1000000 : Nat) ∧ List.length c.1 ≤ (1000000 : Nat) ∧ (3 : Nat) ≤ (1000000 : Nat)) ∧ ((firstS [cabS (vc57_0 c s e), secE (vc57_0 c s e) s, endS e] != (0 : Int)) = true → ((0 : Int), (0 : Int)) = factorF c s e ∧ firstS [cabS (vc57_0 c s e), secE (vc57_0 c s e) s, endS e] = factorE c s e) ∧ ((firstS [cabS (vc57_0 c s e), secE (vc57_0 c s e) s, endS e] != (0 : Int)) = false → (cabS (vc57_0 c s e) = (0 : Int) ∧ ((-1000 : Int) ≤ s ∧ s ≤ (1000 : Int)) ∧ ((-9200000000000000000 : Int) ≤ (factS (vc57_0 c s e) s e).fst ∧ (factS (vc57_0 c s e) s e).fst ≤ (9200000000000000000 : Int)) ∧ (0 : Int) < (factS (vc57_0 c s e) s e).snd ∧ (factS (vc57_0 c s e) s e).snd ≤ (9200000000000000000 : Int)) ∧ ((lowestS (factS (vc57_0 c s e) s e).fst (factS (vc57_0 c s e) s e).snd).fst, (lowestS (factS (vc57_0 c s e) s e).fst (factS (vc57_0 c s e) s e).snd).snd) = factorF c s e ∧ (0 : Int) = factorE c s e)) := by
 intros
 kernel_rfl
theorem wp57 (c : Cab) (s : Int) (e : ByteArray) : wpF Tryz.prog G76 (na ()) Tryz.f57 cFactor (c, s, e, ()) := by
 refine (vc57 c s e).mpr ?_
 delta vc57_0
 intro h1 h2
 refine ⟨⟨h1, h2, h1, by omega⟩, fun h => ?_, fun h => ?_⟩
 ·have h : ¬ factorE c s e = 0 := bne_iff_ne.1 h
  unfold factorF; rw [if_neg h]; exact ⟨rfl, rfl⟩
 ·have h : factorE c s e = 0 := bne_eq_false_iff_eq.1 h
  obtain ⟨hc, hs, _⟩ := factorE_zero h
  have hv : cabV c := cabS_V hc
  have hb := factS_bd (s := s) (e := e) hv
  have hl := hv.2.1
  have b1 : -9200000000000000000 ≤ (factS c s e).1 ∧ (factS c s e).1 ≤ 9200000000000000000 := by omega
  have b2 : 0 < (factS c s e).2 ∧ (factS c s e).2 ≤ 9200000000000000000 := by omega
  unfold factorF; rw [if_pos h]
  exact ⟨⟨hc, by omega, b1, b2⟩, rfl, h.symm⟩
theorem ok57 [Sx.Dr] : Ok Tryz.prog 57 cFactor := ok_of_wp mixed g76 (by kernel_rfl) (by kernel_rfl) na fun xx => wp57 xx.1 xx.2.1 xx.2.2.1
abbrev G77 : Gam := (57, cFactor) :: G76
theorem g77 [Sx.Dr] : GamOk Tryz.prog G77 := .cons ok57 g76
def cFactorR : Con := { args := [aCR, aI, aS], ress := [Pr], owns := [], pre := fun (c, s, e, _) => [factorE c s e = 0], spec := fun (c, s, e, _) => (factorG c s e, ()) }
def vc67_0 (c : Cab) (s : Int) (e : ByteArray) := (factS (c.1, c.snd.1, c.snd.snd.fst, c.snd.snd.snd) s e)
theorem vc67 : ∀ (c : Cab) (s : Int) (e : ByteArray), wpF Tryz.prog G77 (na ()) Tryz.f67 cFactorR (c, s, e, ()) = (factorE c s e = (0 : Int) → (cabS (c.1, c.snd.1, c.snd.snd.fst, c.snd.snd.snd) = (0 : Int) ∧ (-1000 : Int) ≤ s ∧ s ≤ (1000 : Int)) ∧ (((-9200000000000000000 : Int) ≤ (vc67_0 c s e).fst ∧ (vc67_0 c s e).fst ≤ (9200000000000000000 : Int)) ∧ (0 : Int) < (vc67_0 c s e).snd ∧ (vc67_0 c s e).snd ≤ (9200000000000000000 : Int)) ∧ ((lowestS (vc67_0 c s e).fst (vc67_0 c s e).snd).fst, (lowestS (vc67_0 c s e).fst (vc67_0 c s e).snd).snd) = factorG c s e) := by
 intros
 kernel_rfl
theorem wp67 (c : Cab) (s : Int) (e : ByteArray) : wpF Tryz.prog G77 (na ()) Tryz.f67 cFactorR (c, s, e, ()) := by
 refine (vc67 c s e).mpr ?_
 delta vc67_0
 intro h
 obtain ⟨hc, hs, _⟩ := factorE_zero h
 have hv : cabV c := cabS_V hc
 have hb := factS_bd (s := s) (e := e) hv
 have hl := hv.2.1
 have b1 : -9200000000000000000 ≤ (factS c s e).1 ∧ (factS c s e).1 ≤ 9200000000000000000 := by omega
 have b2 : 0 < (factS c s e).2 ∧ (factS c s e).2 ≤ 9200000000000000000 := by omega
 exact ⟨⟨hc, by omega⟩, ⟨b1, b2⟩, rfl⟩
theorem ok67 [Sx.Dr] : Ok Tryz.prog 67 cFactorR := ok_of_wp mixed g77 (by kernel_rfl) (by kernel_rfl) na fun xx => wp67 xx.1 xx.2.1 xx.2.2.1
abbrev G78 : Gam := (67, cFactorR) :: G77
theorem g78 [Sx.Dr] : GamOk Tryz.prog G78 := .cons ok67 g77
set_option maxHeartbeats 20000000
def selS (q : Nat → Bool) : Nat → List (Int × Int) → Int → Int
 | _, [], a => a
 | i, x :: r, a => selS q (i + 1) r (bif q i then a + x.2 else a)
theorem selS_snoc (q : Nat → Bool) (x : Int × Int) : ∀ (l : List (Int × Int)) (i : Nat) (a : Int), selS q i (l ++ [x]) a = bif q (i + l.length) then selS q i l a + x.2 else selS q i l a
 | [], i, a => by simp [selS]
 | y :: r, i, a => by
  simp only [List.cons_append, selS, List.length_cons]
  rw [selS_snoc q x r, show i + 1 + r.length = i + (r.length + 1) by omega]
theorem selS_add (q : Nat → Bool) : ∀ (l : List (Int × Int)) (i : Nat) (a b : Int), selS q i l (a + b) = selS q i l a + b
 | [], _, _, _ => rfl
 | x :: r, i, a, b => by
  simp only [selS]
  cases q i
  ·simp only [cond_false]; exact selS_add q r (i + 1) a b
  ·simp only [cond_true]
   rw [show a + b + x.2 = (a + x.2) + b by omega]; exact selS_add q r (i + 1) _ b
theorem selS_congr {q q' : Nat → Bool} (h : ∀ i, q i = q' i) (l : List (Int × Int)) (i : Nat) (a : Int) : selS q i l a = selS q' i l a := by
 rw [show q = q' from funext h]
theorem selS_bd {q : Nat → Bool} : ∀ {l : List (Int × Int)} {i : Nat} {a : Int}, (∀ x ∈ l, 1 ≤ x.1 ∧ x.1 ≤ 100000 ∧ 1 ≤ x.2 ∧ x.2 ≤ 64) → a ≤ selS q i l a ∧ selS q i l a ≤ a + 64 * l.length
 | [], _, _, _ => by simp [selS]
 | x :: r, i, a, h => by
  have hx := h x (by simp)
  have ih := selS_bd (q := q) (l := r) (i := i + 1) (a := bif q i then a + x.2 else a) fun y hy => h y (by simp [hy])
  simp only [selS, List.length_cons]
  cases hq : q i
  ·rw [hq] at ih; simp only [cond_false] at ih ⊢; omega
  ·rw [hq] at ih; simp only [cond_true] at ih ⊢; omega
theorem selS_shift {s : Int} : ∀ (l : List (Int × Int)) (i : Nat) (a : Int), (i : Int) ≤ s → s < i + l.length → selS (fun k => decide (s ≤ (k : Int))) i l a = selS (fun k => decide (s < (k : Int))) i l a + (l.getD (s - i).toNat (0, 0)).2
 | [], i, a, h1, h2 => by simp at h2; omega
 | x :: r, i, a, h1, h2 => by
  simp only [selS]
  simp only [List.length_cons] at h2
  rw [decide_eq_false (by omega : ¬ s < (i : Int))]
  simp only [cond_false]
  by_cases e : (i : Int) = s
  ·rw [decide_eq_true (by omega : s ≤ (i : Int)), show (s - (i : Int)).toNat = 0 by omega]
   simp only [cond_true, List.getD_cons_zero]
   rw [selS_add]
   have : ∀ (l : List (Int × Int)) (j : Nat) (a : Int), s < (j : Int) → selS (fun k => decide (s ≤ (k : Int))) j l a = selS (fun k => decide (s < (k : Int))) j l a := by
    intro l
    induction l with
    | nil => intro j a _; rfl
    | cons y t ih =>
     intro j a hj
     simp only [selS]
     rw [decide_eq_true (by omega : s ≤ (j : Int)), decide_eq_true hj]
     exact ih (j + 1) _ (by omega)
   rw [this r (i + 1) a (by omega)]
  ·rw [decide_eq_false (by omega : ¬ s ≤ (i : Int))]
   simp only [cond_false]
   rw [selS_shift r (i + 1) a (by omega) (by omega), show (s - (i : Int)).toNat = (s - ((i + 1 : Nat) : Int)).toNat + 1 by omega, List.getD_cons_succ]
def qP (e : ByteArray) (s : Int) (i : Nat) : Bool := bif (bif isB e then decide (s ≤ (i : Int)) else false) then true else (bif isA e then decide ((i : Int) < s) else false)
def qR (e : ByteArray) (s : Int) (i : Nat) : Bool := bif (bif isA e then decide ((i : Int) < s) else false) then true else (bif isB e then decide (s < (i : Int)) else false)
def tickP (c : Cab) (f : Flt) (e : ByteArray) : Int := bif isA e then selS (qP e f.1) 0 c.1 (f.2.2.1 - f.2.1) + 2 * f.2.1 else selS (qP e f.1) 0 c.1 (f.2.2.1 - f.2.1)
def tickR (c : Cab) (f : Flt) (e : ByteArray) : Int := selS (qR e f.1) 0 c.1 (bif isB e then f.2.2.1 + (c.1.getD f.1.toNat (0, 0)).2 - f.2.1 else f.2.2.1 + f.2.1)
theorem end_AB {e : ByteArray} (h : endS e = 0) : (isA e = true ∧ isB e = false) ∨ (isA e = false ∧ isB e = true) := by
 unfold endS at h
 cases ha : isA e with
 | true =>
  cases hb : isB e with
  | true => have := not_both e hb; rw [ha] at this; cases this
  | false => exact .inl ⟨rfl, rfl⟩
 | false =>
  cases hb : isB e with
  | true => exact .inr ⟨rfl, rfl⟩
  | false =>
   have ha : (e.toList == sA.toList) = false := ha
   have hb : (e.toList == sB.toList) = false := hb
   rw [ha, hb] at h
   cases h
theorem tick_eq {c : Cab} {f : Flt} {e : ByteArray} (hs : 0 ≤ f.1 ∧ f.1 < c.1.length) (he : endS e = 0) : tickP c f e = tickR c f e := by
 unfold tickP tickR
 rcases end_AB he with ⟨ha, hb⟩ | ⟨ha, hb⟩
 ·rw [ha, hb]
  simp only [cond_true, cond_false]
  rw [← selS_add, show f.2.2.1 - f.2.1 + 2 * f.2.1 = f.2.2.1 + f.2.1 by omega]
  refine selS_congr (fun i => ?_) _ _ _
  unfold qP qR; rw [ha, hb]
  cases decide ((i : Int) < f.1) <;> rfl
 ·rw [ha, hb]
  simp only [cond_true, cond_false]
  have e1 : selS (qP e f.1) 0 c.1 (f.2.2.1 - f.2.1) = selS (fun k => decide (f.1 ≤ (k : Int))) 0 c.1 (f.2.2.1 - f.2.1) := selS_congr (fun i => by unfold qP; rw [ha, hb]; cases decide (f.1 ≤ (i : Int)) <;> rfl) _ _ _
  have e2 : ∀ a, selS (qR e f.1) 0 c.1 a = selS (fun k => decide (f.1 < (k : Int))) 0 c.1 a := fun a => selS_congr (fun i => by unfold qR; rw [ha, hb]; rfl) _ _ _
  rw [e1, e2, selS_shift c.1 0 _ (by omega) (by omega), show f.2.2.1 + (c.1.getD f.1.toNat (0, 0)).2 - f.2.1 = (f.2.2.1 - f.2.1) + (c.1.getD f.1.toNat (0, 0)).2 by omega, selS_add, show (f.1 - ((0 : Nat) : Int)).toNat = f.1.toNat by omega]
theorem height_eq {H n d : Int} {j : Nat} (hj : j ≤ 5) (hd : d = 8 ^ j) : H * (262144 : Int).tdiv d * n = (H * 262144 * n).tdiv d := by
 have key : ∀ q : Int, 0 < d → 262144 = d * q → H * (262144 : Int).tdiv d * n = (H * 262144 * n).tdiv d := fun q hd hq => by
  rw [hq, Int.mul_tdiv_cancel_left _ (by omega), show H * (d * q) * n = d * (H * q * n) by rw [Int.mul_left_comm H d q, Int.mul_assoc d], Int.mul_tdiv_cancel_left _ (by omega)]
 have : j = 0 ∨ j = 1 ∨ j = 2 ∨ j = 3 ∨ j = 4 ∨ j = 5 := by omega
 rcases this with rfl | rfl | rfl | rfl | rfl | rfl
 ·exact key 262144 (by rw [hd]; decide) (by rw [hd]; decide)
 ·exact key 32768 (by rw [hd]; decide) (by rw [hd]; decide)
 ·exact key 4096 (by rw [hd]; decide) (by rw [hd]; decide)
 ·exact key 512 (by rw [hd]; decide) (by rw [hd]; decide)
 ·exact key 64 (by rw [hd]; decide) (by rw [hd]; decide)
 ·exact key 8 (by rw [hd]; decide) (by rw [hd]; decide)
def heightR (c : Cab) (f : Flt) (e : ByteArray) : Int := (f.2.2.2 * 262144 * (factS c f.1 e).1).tdiv (factS c f.1 e).2
def dirE (c : Cab) (f : Flt) (e : ByteArray) : Int := firstS [fltS c f, endS e]
def dirG (c : Cab) (f : Flt) (e : ByteArray) : Int × Int := if (factS c f.1 e).1 = 0 then (0, 0) else (tickR c f e, heightR c f e)
def dirGE (c : Cab) (f : Flt) (e : ByteArray) : Int := if (factS c f.1 e).1 = 0 then 7 else 0
def dirF (c : Cab) (f : Flt) (e : ByteArray) : Int × Int := if dirE c f e = 0 then dirG c f e else (0, 0)
def dirEE (c : Cab) (f : Flt) (e : ByteArray) : Int := if dirE c f e = 0 then dirGE c f e else dirE c f e
theorem dirE_zero {c : Cab} {f : Flt} {e : ByteArray} (h : dirE c f e = 0) : fltS c f = 0 ∧ endS e = 0 := by
 have hz := firstS_zero (show firstS [fltS c f, endS e] = 0 from h)
 simp only [List.mem_cons, List.not_mem_nil, or_false, forall_eq_or_imp, forall_eq] at hz
 exact hz
theorem sel_take {q : Nat → Bool} {l : List (Int × Int)} {k : Nat} {a : Int} (h : k < l.length) : selS q 0 (l.take (k + 1)) a = bif q k then selS q 0 (l.take k) a + (l.getD k (0, 0)).2 else selS q 0 (l.take k) a := by
 rw [← take_snoc (d := (0, 0)) h, selS_snoc, Nat.zero_add, List.length_take, Nat.min_eq_left (by omega)]
theorem sel_bd {c : Cab} {q : Nat → Bool} {k : Nat} {a : Int} (hv : cabV c) (ha : -100000 ≤ a ∧ a ≤ 200000) : -100000 ≤ selS q 0 (c.1.take k) a ∧ selS q 0 (c.1.take k) a ≤ 200384 := by
 have h := selS_bd (q := q) (l := c.1.take k) (i := 0) (a := a) fun x hx => hv.2.2.1 x (List.mem_of_mem_take hx)
 have h2 : (c.1.take k).length ≤ c.1.length := by simp; omega
 have h3 := hv.2.1
 omega
theorem ht_bds {c : Cab} {s H : Int} {e : ByteArray} (hv : cabV c) (hH : -1024 ≤ H ∧ H ≤ 1024) : ((factS c s e).2 = 0 → False) ∧ (-9223372036854775808 ≤ (262144 : Int).tdiv (factS c s e).2 ∧ (262144 : Int).tdiv (factS c s e).2 ≤ 9223372036854775807) ∧ (-9223372036854775808 ≤ H * (262144 : Int).tdiv (factS c s e).2 ∧ H * (262144 : Int).tdiv (factS c s e).2 ≤ 9223372036854775807) ∧ -9223372036854775808 ≤ H * (262144 : Int).tdiv (factS c s e).2 * (factS c s e).1 ∧ H * (262144 : Int).tdiv (factS c s e).2 * (factS c s e).1 ≤ 9223372036854775807 := by
 have hb := factS_bd (s := s) (e := e) hv
 have t := tdiv_bd (a := 262144) (g := (factS c s e).2) (B := 262144) ⟨by decide, by decide⟩
 have m1 := mul_bd (A := 1024) (B := 262144) hH t
 have m2 := mul_bd (A := 1024 * 262144) (B := 1048576) m1 (b := (factS c s e).1) ⟨by omega, hb.1.2⟩
 exact ⟨by omega, by omega, by omega, by omega⟩
theorem ht_bdr {c : Cab} {s H : Int} {e : ByteArray} (hv : cabV c) (hH : -1024 ≤ H ∧ H ≤ 1024) : (-9223372036854775808 ≤ H * 262144 ∧ H * 262144 ≤ 9223372036854775807) ∧ (-9223372036854775808 ≤ H * 262144 * (factS c s e).1 ∧ H * 262144 * (factS c s e).1 ≤ 9223372036854775807) ∧ ((factS c s e).2 = 0 → False) ∧ -9223372036854775808 ≤ (H * 262144 * (factS c s e).1).tdiv (factS c s e).2 ∧ (H * 262144 * (factS c s e).1).tdiv (factS c s e).2 ≤ 9223372036854775807 := by
 have hb := factS_bd (s := s) (e := e) hv
 have m2 := mul_bd (A := 1024 * 262144) (B := 1048576) (a := H * 262144) ⟨by omega, by omega⟩ (b := (factS c s e).1) ⟨by omega, hb.1.2⟩
 have t := tdiv_bd (g := (factS c s e).2) m2
 exact ⟨by omega, by omega, by omega, by omega⟩
def cDirect : Con := { args := [aC, aF, aS], ress := [Pr, I], owns := [], pre := fun (c, _) => [c.1.length ≤ 1000000, c.2.1.length ≤ 1000000], spec := fun (c, f, e, _) => (dirF c f e, dirEE c f e, ()) }
abbrev annDir (c : Cab) (f : Flt) (e : ByteArray) : Ann := { X := Nat, σ := fun k => ⟨5, [(2, .one (.str e)), (4, .one (.ptr 3 0)), (6, .one (.ptr 4 0)), (9, .one (.int .i64 (factS c f.1 e).1)), (10, .one (.int .i64 (factS c f.1 e).2)), (11, .one (.int .i64 (selS (qP e f.1) 0 (c.1.take k) (f.2.2.1 - f.2.1)))), (42, .one (.sl 0)), (43, .one (.int .i64 c.1.length)), (44, .one (.int .i64 k))], [(0, .imm 166 sPt c.1), (3, .box 31 [.int .i64 f.1, .int .i64 f.2.1, .int .i64 f.2.2.1, .int .i64 f.2.2.2]), (4, .box 24 [.int .i64 0, .int .i64 0])]⟩, inv := fun k => k ≤ c.1.length ∧ dirE c f e = 0 ∧ (factS c f.1 e).1 ≠ 0, mu := fun k => c.1.length - k }
def vc52_0 (c : Cab) (f : Flt) (e : ByteArray) := (((factS c f.fst e).snd = (0 : Int) → False) ∧ ((-9223372036854775808 : Int) ≤ Int.tdiv (262144 : Int) (factS c f.fst e).snd ∧ Int.tdiv (262144 : Int) (factS c f.fst e).snd ≤ (9223372036854775807 : Int)) ∧ ((-9223372036854775808 : Int) ≤ f.snd.snd.snd * Int.tdiv (262144 : Int) (factS c f.fst e).snd ∧ f.snd.snd.snd * Int.tdiv (262144 : Int) (factS c f.fst e).snd ≤ (9223372036854775807 : Int)) ∧ (-9223372036854775808 : Int) ≤ f.snd.snd.snd * Int.tdiv (262144 : Int) (factS c f.fst e).snd * (factS c f.fst e).fst ∧ f.snd.snd.snd * Int.tdiv (262144 : Int) (factS c f.fst e).snd * (factS c f.fst e).fst ≤ (9223372036854775807 : Int))
theorem vc52 : ∀ (c : Cab) (f : Flt) (e : ByteArray), wpF Tryz.prog G78 (ann0 (annDir c f e)) Tryz.f52 cDirect (c, f, e, ()) = (List.length c.fst ≤ (1000000 : Nat) → List.length c.snd.fst ≤ (1000000 : Nat) → (List.length c.1 ≤ (1000000 : Nat) ∧ List.length c.snd.1 ≤ (1000000 : Nat) ∧ (2 : Nat) ≤ (1000000 : Nat)) ∧ ((firstS [fltS (c.1, c.snd.1, c.snd.snd.fst, c.snd.snd.snd) (f.fst, f.snd.fst, f.snd.snd.fst, f.snd.snd.snd), endS e] != (0 : Int)) = true → ((0 : Int), (0 : Int)) = dirF c f e ∧ firstS [fltS (c.1, c.snd.1, c.snd.snd.fst, c.snd.snd.snd) (f.fst, f.snd.fst, f.snd.snd.fst, f.snd.snd.snd), endS e] = dirEE c f e) ∧ ((firstS [fltS (c.1, c.snd.1, c.snd.snd.fst, c.snd.snd.snd) (f.fst, f.snd.fst, f.snd.snd.fst, f.snd.snd.snd), endS e] != (0 : Int)) = false → (cabS (c.1, c.snd.1, c.snd.snd.fst, c.snd.snd.snd) = (0 : Int) ∧ (-1000 : Int) ≤ f.fst ∧ f.fst ≤ (1000 : Int)) ∧ (((factS (c.1, c.snd.1, c.snd.snd.fst, c.snd.snd.snd) f.fst e).fst == (0 : Int)) = true → ((0 : Int), (0 : Int)) = dirF c f e ∧ (7 : Int) = dirEE c f e) ∧ (((factS (c.1, c.snd.1, c.snd.snd.fst, c.snd.snd.snd) f.fst e).fst == (0 : Int)) = false → ((-9223372036854775808 : Int) ≤ f.snd.snd.fst - f.snd.fst ∧ f.snd.snd.fst - f.snd.fst ≤ (9223372036854775807 : Int)) ∧ ∃ (x : Nat), (e = e ∧ (factS (c.1, c.snd.1, c.snd.snd.fst, c.snd.snd.snd) f.fst e).fst = (factS c f.fst e).fst ∧ (factS (c.1, c.snd.1, c.snd.snd.fst, c.snd.snd.snd) f.fst e).snd = (factS c f.fst e).snd ∧ f.snd.snd.fst - f.snd.fst = selS (qP e f.fst) (0 : Nat) (List.take x c.fst) (f.snd.snd.fst - f.snd.fst) ∧ (↑(List.length c.fst) : Int) = (↑(List.length c.fst) : Int) ∧ (0 : Int) = (↑x : Int) ∧ c.1 = c.fst ∧ f.fst = f.fst ∧ f.snd.fst = f.snd.fst ∧ f.snd.snd.fst = f.snd.snd.fst ∧ f.snd.snd.snd = f.snd.snd.snd ∧ (0 : Int) = (0 : Int) ∧ (0 : Int) = (0 : Int)) ∧ (x ≤ List.length c.fst ∧ dirE c f e = (0 : Int) ∧ ((factS c f.fst e).fst = (0 : Int) → False)) ∧ ∀ (x : Nat), x ≤ List.length c.fst ∧ dirE c f e = (0 : Int) ∧ ((factS c f.fst e).fst = (0 : Int) → False) → (decide ((↑x : Int) < (↑(List.length c.fst) : Int)) = true → (((0 : Int) ≤ (↑x : Int) ∧ (↑x : Int) < (↑(List.length c.fst) : Int)) ∧ (0 : Int) ≤ (↑x : Int) ∧ (↑x : Int) < (↑(List.length c.fst) : Int)) ∧ ((bif ByteArray.toList e == ByteArray.toList (ByteArray.mk (Array.mk [(66 : UInt8)])) then decide (f.fst ≤ (↑x : Int)) else false) = true → ((-9223372036854775808 : Int) ≤ selS (qP e f.fst) (0 : Nat) (List.take x c.fst) (f.snd.snd.fst - f.snd.fst) + (List.getD c.fst x ((0 : Int), (0 : Int))).snd ∧ selS (qP e f.fst) (0 : Nat) (List.take x c.fst) (f.snd.snd.fst - f.snd.fst) + (List.getD c.fst x ((0 : Int), (0 : Int))).snd ≤ (9223372036854775807 : Int)) ∧ ((-9223372036854775808 : Int) ≤ (↑x : Int) + (1 : Int) ∧ (↑x : Int) + (1 : Int) ≤ (9223372036854775807 : Int)) ∧ ∃ (y : Nat), (e = e ∧ (factS c f.fst e).fst = (factS c f.fst e).fst ∧ (factS c f.fst e).snd = (factS c f.fst e).snd ∧ selS (qP e f.fst) (0 : Nat) (List.take x c.fst) (f.snd.snd.fst - f.snd.fst) + (List.getD c.fst x ((0 : Int), (0 : Int))).snd = selS (qP e f.fst) (0 : Nat) (List.take y c.fst) (f.snd.snd.fst - f.snd.fst) ∧ (↑(List.length c.fst) : Int) = (↑(List.length c.fst) : Int) ∧ (↑x : Int) + (1 : Int) = (↑y : Int) ∧ c.1 = c.fst ∧ f.fst = f.fst ∧ f.snd.fst = f.snd.fst ∧ f.snd.snd.fst = f.snd.snd.fst ∧ f.snd.snd.snd = f.snd.snd.snd ∧ (0 : Int) = (0 : Int) ∧ (0 : Int) = (0 : Int)) ∧ (y ≤ List.length c.fst ∧ dirE c f e = (0 : Int) ∧ ((factS c f.fst e).fst = (0 : Int) → False)) ∧ List.length c.fst - y < List.length c.fst - x) ∧ ((bif ByteArray.toList e == ByteArray.toList (ByteArray.mk (Array.mk [(66 : UInt8)])) then decide (f.fst ≤ (↑x : Int)) else false) = false → ((bif ByteArray.toList e == ByteArray.toList (ByteArray.mk (Array.mk [(65 : UInt8)])) then decide ((↑x : Int) < f.fst) else false) = true → ((-9223372036854775808 : Int) ≤ selS (qP e f.fst) (0 : Nat) (List.take x c.fst) (f.snd.snd.fst - f.snd.fst) + (List.getD c.fst x ((0 : Int), (0 : Int))).snd ∧ selS (qP e f.fst) (0 : Nat) (List.take x c.fst) (f.snd.snd.fst - f.snd.fst) + (List.getD c.fst x ((0 : Int), (0 : Int))).snd ≤ (9223372036854775807 : Int)) ∧ ((-9223372036854775808 : Int) ≤ (↑x : Int) + (1 : Int) ∧ (↑x : Int) + (1 : Int) ≤ (9223372036854775807 : Int)) ∧ ∃ (y : Nat), (e = e ∧ (factS c f.fst e).fst = (factS c f.fst e).fst ∧ (factS c f.fst e).snd = (factS c f.fst e).snd ∧ selS (qP e f.fst) (0 : Nat) (List.take x c.fst) (f.snd.snd.fst - f.snd.fst) + (List.getD c.fst x ((0 : Int), (0 : Int))).snd = selS (qP e f.fst) (0 : Nat) (List.take y c.fst) (f.snd.snd.fst - f.snd.fst) ∧ (↑(List.length c.fst) : Int) = (↑(List.length c.fst) : Int) ∧ (↑x : Int) + (1 : Int) = (↑y : Int) ∧ c.1 = c.fst ∧ f.fst = f.fst ∧ f.snd.fst = f.snd.fst ∧ f.snd.snd.fst = f.snd.snd.fst ∧ f.snd.snd.snd = f.snd.snd.snd ∧ (0 : Int) = (0 : Int) ∧ (0 : Int) = (0 : Int)) ∧ (y ≤ List.length c.fst ∧ dirE c f e = (0 : Int) ∧ ((factS c f.fst e).fst = (0 : Int) → False)) ∧ List.length c.fst - y < List.length c.fst - x) ∧ ((bif ByteArray.toList e == ByteArray.toList (ByteArray.mk (Array.mk [(65 : UInt8)])) then decide ((↑x : Int) < f.fst) else false) = false → ((-9223372036854775808 : Int) ≤ (↑x : Int) + (1 : Int) ∧ (↑x : Int) + (1 : Int) ≤ (9223372036854775807 : Int)) ∧ ∃ (y : Nat), (e = e ∧ (factS c f.fst e).fst = (factS c f.fst e).fst ∧ (factS c f.fst e).snd = (factS c f.fst e).snd ∧ selS (qP e f.fst) (0 : Nat) (List.take x c.fst) (f.snd.snd.fst - f.snd.fst) = selS (qP e f.fst) (0 : Nat) (List.take y c.fst) (f.snd.snd.fst - f.snd.fst) ∧ (↑(List.length c.fst) : Int) = (↑(List.length c.fst) : Int) ∧ (↑x : Int) + (1 : Int) = (↑y : Int) ∧ c.1 = c.fst ∧ f.fst = f.fst ∧ f.snd.fst = f.snd.fst ∧ f.snd.snd.fst = f.snd.snd.fst ∧ f.snd.snd.snd = f.snd.snd.snd ∧ (0 : Int) = (0 : Int) ∧ (0 : Int) = (0 : Int)) ∧ (y ≤ List.length c.fst ∧ dirE c f e = (0 : Int) ∧ ((factS c f.fst e).fst = (0 : Int) → False)) ∧ List.length c.fst - y < List.length c.fst - x))) ∧ (decide ((↑x : Int) < (↑(List.length c.fst) : Int)) = false → ((ByteArray.toList e == ByteArray.toList (ByteArray.mk (Array.mk [(65 : UInt8)]))) = true → (((-9223372036854775808 : Int) ≤ (2 : Int) * f.snd.fst ∧ (2 : Int) * f.snd.fst ≤ (9223372036854775807 : Int)) ∧ (-9223372036854775808 : Int) ≤ selS (qP e f.fst) (0 : Nat) (List.take x c.fst) (f.snd.snd.fst - f.snd.fst) + (2 : Int) * f.snd.fst ∧ selS (qP e f.fst) (0 : Nat) (List.take x c.fst) (f.snd.snd.fst - f.snd.fst) + (2 : Int) * f.snd.fst ≤ (9223372036854775807 : Int)) ∧ (vc52_0 c f e) ∧ (selS (qP e f.fst) (0 : Nat) (List.take x c.fst) (f.snd.snd.fst - f.snd.fst) + (2 : Int) * f.snd.fst, f.snd.snd.snd * Int.tdiv (262144 : Int) (factS c f.fst e).snd * (factS c f.fst e).fst) = dirF c f e ∧ (0 : Int) = dirEE c f e) ∧ ((ByteArray.toList e == ByteArray.toList (ByteArray.mk (Array.mk [(65 : UInt8)]))) = false → (vc52_0 c f e) ∧ (selS (qP e f.fst) (0 : Nat) (List.take x c.fst) (f.snd.snd.fst - f.snd.fst), f.snd.snd.snd * Int.tdiv (262144 : Int) (factS c f.fst e).snd * (factS c f.fst e).fst) = dirF c f e ∧ (0 : Int) = dirEE c f e))))) := by
 intros
 kernel_rfl
theorem wp52 (c : Cab) (f : Flt) (e : ByteArray) : wpF Tryz.prog G78 (ann0 (annDir c f e)) Tryz.f52 cDirect (c, f, e, ()) := by
 refine (vc52 c f e).mpr ?_
 delta vc52_0
 intro h1 h2
 refine ⟨⟨h1, h2, by omega⟩, fun h => ?_, fun h => ?_⟩
 ·have h : ¬ dirE c f e = 0 := bne_iff_ne.1 h
  unfold dirF dirEE; rw [if_neg h, if_neg h]; exact ⟨rfl, rfl⟩
 have h : dirE c f e = 0 := bne_eq_false_iff_eq.1 h
 obtain ⟨hf, he⟩ := dirE_zero h
 obtain ⟨hc, hfv⟩ := fltS_V hf
 have hv := hfv.1
 obtain ⟨_, g1, g2, g3, g4, g5⟩ := id hfv
 have hlen := hv.2.1
 have b := hv.2.2.1 _ (getD_mem (d := (0, 0)) (l := c.1) (k := f.1.toNat) (by omega))
 have eF : dirF c f e = dirG c f e := if_pos h
 have eE : dirEE c f e = dirGE c f e := if_pos h
 refine ⟨⟨hc, by omega⟩, fun e1 => ?_, fun e1 => ?_⟩
 ·have e1 : (factS c f.1 e).1 = 0 := eq_of_beq e1
  rw [eF, eE]; unfold dirG dirGE; rw [if_pos e1, if_pos e1]; exact ⟨rfl, rfl⟩
 have e1 : ¬ (factS c f.1 e).1 = 0 := by
  have e1 : ((factS c f.1 e).1 == 0) = false := e1
  simpa using e1
 refine ⟨by omega, (0 : Nat), ⟨rfl, rfl, rfl, rfl, rfl, rfl, rfl, rfl, rfl, rfl, rfl, rfl, rfl⟩, ⟨Nat.zero_le _, h, e1⟩, fun (k : Nat) hk => ⟨fun hlt => ?_, fun hge => ?_⟩⟩
 ·have hlt : k < c.1.length := by simpa using hlt
  have st := sel_take (q := qP e f.1) (a := f.2.2.1 - f.2.1) hlt
  have sb := sel_bd (q := qP e f.1) (k := k) (a := f.2.2.1 - f.2.1) hv (by omega)
  have xb := hv.2.2.1 _ (getD_mem (d := (0, 0)) hlt)
  refine ⟨⟨by omega, by omega⟩, fun c1 => ?_, fun c1 => ⟨fun c2 => ?_, fun c2 => ?_⟩⟩
  ·have c1 : (bif isB e then decide (f.1 ≤ (k : Int)) else false) = true := c1
   have q : qP e f.1 k = true := by unfold qP; rw [c1]; rfl
   rw [q] at st
   exact ⟨by omega, by omega, (k + 1 : Nat), ⟨rfl, rfl, rfl, st.symm, rfl, by simp, rfl, rfl, rfl, rfl, rfl, rfl, rfl⟩, ⟨hlt, h, e1⟩, by omega⟩
  ·have c1 : (bif isB e then decide (f.1 ≤ (k : Int)) else false) = false := c1
   have c2 : (bif isA e then decide ((k : Int) < f.1) else false) = true := c2
   have q : qP e f.1 k = true := by unfold qP; rw [c1, c2]; rfl
   rw [q] at st
   exact ⟨by omega, by omega, (k + 1 : Nat), ⟨rfl, rfl, rfl, st.symm, rfl, by simp, rfl, rfl, rfl, rfl, rfl, rfl, rfl⟩, ⟨hlt, h, e1⟩, by omega⟩
  ·have c1 : (bif isB e then decide (f.1 ≤ (k : Int)) else false) = false := c1
   have c2 : (bif isA e then decide ((k : Int) < f.1) else false) = false := c2
   have q : qP e f.1 k = false := by unfold qP; rw [c1, c2]; rfl
   rw [q] at st
   exact ⟨by omega, (k + 1 : Nat), ⟨rfl, rfl, rfl, st.symm, rfl, by simp, rfl, rfl, rfl, rfl, rfl, rfl, rfl⟩, ⟨hlt, h, e1⟩, by omega⟩
 ·have hge : ¬ k < c.1.length := by simpa using hge
  have sb := sel_bd (q := qP e f.1) (k := k) (a := f.2.2.1 - f.2.1) hv (by omega)
  have hB := ht_bds (c := c) (s := f.1) (e := e) hv g4
  obtain ⟨_, j, hj, hd⟩ := factS_ok (s := f.1) (e := e) hv
  have hh : f.2.2.2 * (262144 : Int).tdiv (factS c f.1 e).2 * (factS c f.1 e).1 = heightR c f e := height_eq (by have := hv.2.2.2.1; omega) hd
  have ht := tick_eq (c := c) (f := f) (e := e) g1 he
  have eG : dirG c f e = (tickR c f e, heightR c f e) := if_neg e1
  have eGE : dirGE c f e = 0 := if_neg e1
  have et : c.1.take k = c.1 := List.take_of_length_le (by omega)
  refine ⟨fun ha => ?_, fun ha => ?_⟩
  ·have ha : isA e = true := ha
   refine ⟨⟨by omega, by omega⟩, hB, ?_, by rw [eE, eGE]⟩
   rw [eF, eG, ← hh, ← ht, et]
   unfold tickP; rw [ha]; rfl
  ·have ha : isA e = false := ha
   refine ⟨hB, ?_, by rw [eE, eGE]⟩
   rw [eF, eG, ← hh, ← ht, et]
   unfold tickP; rw [ha]; rfl
theorem ok52 [Sx.Dr] : Ok Tryz.prog 52 cDirect := ok_of_wp mixed g78 (by kernel_rfl) (by kernel_rfl) (fun xx => ann0 (annDir xx.1 xx.2.1 xx.2.2.1)) fun xx => wp52 xx.1 xx.2.1 xx.2.2.1
abbrev G79 : Gam := (52, cDirect) :: G78
theorem g79 [Sx.Dr] : GamOk Tryz.prog G79 := .cons ok52 g78
def cDirectR : Con := { args := [aCR, aF, aS], ress := [Pr, I], owns := [], pre := fun (c, f, e, _) => [dirE c f e = 0], spec := fun (c, f, e, _) => (dirG c f e, dirGE c f e, ()) }
abbrev annDirR (c : Cab) (f : Flt) (e : ByteArray) : Ann := { X := Nat, σ := fun k => ⟨5, [(2, .one (.str e)), (3, .one (.ptr 2 0)), (4, .one (.ptr 3 0)), (6, .one (.ptr 4 0)), (8, .one (.int .i64 (factS c f.1 e).1)), (9, .one (.int .i64 (factS c f.1 e).2)), (10, .one (.int .i64 (selS (qR e f.1) 0 (c.1.take k) (bif isB e then f.2.2.1 + (c.1.getD f.1.toNat (0, 0)).2 - f.2.1 else f.2.2.1 + f.2.1)))), (11, .one (.int .i64 k))], [(0, .imm 102 sPt c.1), (1, .imm 3 sI c.2.1), (2, .box 26 [.sl 0, .sl 1, .int .i64 c.2.2.1, .int .i64 c.2.2.2]), (3, .box 28 [.int .i64 f.1, .int .i64 f.2.1, .int .i64 f.2.2.1, .int .i64 f.2.2.2]), (4, .box 24 [.int .i64 0, .int .i64 0])]⟩, inv := fun k => k ≤ c.1.length ∧ (factS c f.1 e).1 ≠ 0, mu := fun k => c.1.length - k }
def vc66_0 (c : Cab) (f : Flt) (e : ByteArray) := (bif isB e then f.snd.snd.fst + (List.getD c.fst (Int.toNat f.fst) ((0 : Int), (0 : Int))).snd - f.snd.fst else f.snd.snd.fst + f.snd.fst)
def vc66_1 (c : Cab) (f : Flt) (e : ByteArray) := (((-9223372036854775808 : Int) ≤ f.snd.snd.snd * (262144 : Int) ∧ f.snd.snd.snd * (262144 : Int) ≤ (9223372036854775807 : Int)) ∧ ((-9223372036854775808 : Int) ≤ f.snd.snd.snd * (262144 : Int) * (factS c f.fst e).fst ∧ f.snd.snd.snd * (262144 : Int) * (factS c f.fst e).fst ≤ (9223372036854775807 : Int)) ∧ ((factS c f.fst e).snd = (0 : Int) → False) ∧ (-9223372036854775808 : Int) ≤ Int.tdiv (f.snd.snd.snd * (262144 : Int) * (factS c f.fst e).fst) (factS c f.fst e).snd ∧ Int.tdiv (f.snd.snd.snd * (262144 : Int) * (factS c f.fst e).fst) (factS c f.fst e).snd ≤ (9223372036854775807 : Int))
theorem vc66 : ∀ (c : Cab) (f : Flt) (e : ByteArray), wpF Tryz.prog G79 (ann0 (annDirR c f e)) Tryz.f66 cDirectR (c, f, e, ()) = (dirE c f e = (0 : Int) → (cabS (c.1, c.snd.1, c.snd.snd.fst, c.snd.snd.snd) = (0 : Int) ∧ (-1000 : Int) ≤ f.fst ∧ f.fst ≤ (1000 : Int)) ∧ (((factS (c.1, c.snd.1, c.snd.snd.fst, c.snd.snd.snd) f.fst e).fst == (0 : Int)) = true → ((0 : Int), (0 : Int)) = dirG c f e ∧ (7 : Int) = dirGE c f e) ∧ (((factS (c.1, c.snd.1, c.snd.snd.fst, c.snd.snd.snd) f.fst e).fst == (0 : Int)) = false → ((-9223372036854775808 : Int) ≤ f.snd.snd.fst + f.snd.fst ∧ f.snd.snd.fst + f.snd.fst ≤ (9223372036854775807 : Int)) ∧ ((ByteArray.toList e == ByteArray.toList (ByteArray.mk (Array.mk [(66 : UInt8)]))) = true → (((0 : Int) ≤ f.fst ∧ f.fst < (↑(List.length c.fst) : Int)) ∧ ((0 : Int) ≤ f.fst ∧ f.fst < (↑(List.length c.fst) : Int)) ∧ ((-9223372036854775808 : Int) ≤ f.snd.snd.fst + (List.getD c.fst (Int.toNat f.fst) ((0 : Int), (0 : Int))).snd ∧ f.snd.snd.fst + (List.getD c.fst (Int.toNat f.fst) ((0 : Int), (0 : Int))).snd ≤ (9223372036854775807 : Int)) ∧ (-9223372036854775808 : Int) ≤ f.snd.snd.fst + (List.getD c.fst (Int.toNat f.fst) ((0 : Int), (0 : Int))).snd - f.snd.fst ∧ f.snd.snd.fst + (List.getD c.fst (Int.toNat f.fst) ((0 : Int), (0 : Int))).snd - f.snd.fst ≤ (9223372036854775807 : Int)) ∧ ∃ (x : Nat), (e = e ∧ (factS (c.1, c.snd.1, c.snd.snd.fst, c.snd.snd.snd) f.fst e).fst = (factS c f.fst e).fst ∧ (factS (c.1, c.snd.1, c.snd.snd.fst, c.snd.snd.snd) f.fst e).snd = (factS c f.fst e).snd ∧ f.snd.snd.fst + (List.getD c.fst (Int.toNat f.fst) ((0 : Int), (0 : Int))).snd - f.snd.fst = selS (qR e f.fst) (0 : Nat) (List.take x c.fst) (vc66_0 c f e) ∧ (0 : Int) = (↑x : Int) ∧ c.1 = c.fst ∧ c.snd.1 = c.snd.fst ∧ c.snd.snd.fst = c.snd.snd.fst ∧ c.snd.snd.snd = c.snd.snd.snd ∧ f.fst = f.fst ∧ f.snd.fst = f.snd.fst ∧ f.snd.snd.fst = f.snd.snd.fst ∧ f.snd.snd.snd = f.snd.snd.snd ∧ (0 : Int) = (0 : Int) ∧ (0 : Int) = (0 : Int)) ∧ (x ≤ List.length c.fst ∧ ((factS c f.fst e).fst = (0 : Int) → False)) ∧ ∀ (x : Nat), x ≤ List.length c.fst ∧ ((factS c f.fst e).fst = (0 : Int) → False) → (decide ((↑x : Int) < (↑(List.length c.fst) : Int)) = true → ((bif bif ByteArray.toList e == ByteArray.toList (ByteArray.mk (Array.mk [(65 : UInt8)])) then decide ((↑x : Int) < f.fst) else false then true else bif ByteArray.toList e == ByteArray.toList (ByteArray.mk (Array.mk [(66 : UInt8)])) then decide (f.fst < (↑x : Int)) else false) = true → (((0 : Int) ≤ (↑x : Int) ∧ (↑x : Int) < (↑(List.length c.fst) : Int)) ∧ ((0 : Int) ≤ (↑x : Int) ∧ (↑x : Int) < (↑(List.length c.fst) : Int)) ∧ (-9223372036854775808 : Int) ≤ selS (qR e f.fst) (0 : Nat) (List.take x c.fst) (vc66_0 c f e) + (List.getD c.fst x ((0 : Int), (0 : Int))).snd ∧ selS (qR e f.fst) (0 : Nat) (List.take x c.fst) (vc66_0 c f e) + (List.getD c.fst x ((0 : Int), (0 : Int))).snd ≤ (9223372036854775807 : Int)) ∧ ((-9223372036854775808 : Int) ≤ (↑x : Int) + (1 : Int) ∧ (↑x : Int) + (1 : Int) ≤ (9223372036854775807 : Int)) ∧ ∃ (y : Nat), (e = e ∧ (factS c f.fst e).fst = (factS c f.fst e).fst ∧ (factS c f.fst e).snd = (factS c f.fst e).snd ∧ selS (qR e f.fst) (0 : Nat) (List.take x c.fst) (vc66_0 c f e) + (List.getD c.fst x ((0 : Int), (0 : Int))).snd = selS (qR e f.fst) (0 : Nat) (List.take y c.fst) (vc66_0 c f e) ∧ (↑x : Int) + (1 : Int) = (↑y : Int) ∧ c.1 = c.fst ∧ c.snd.1 = c.snd.fst ∧ c.snd.snd.fst = c.snd.snd.fst ∧ c.snd.snd.snd = c.snd.snd.snd ∧ f.fst = f.fst ∧ f.snd.fst = f.snd.fst ∧ f.snd.snd.fst = f.snd.snd.fst ∧ f.snd.snd.snd = f.snd.snd.snd ∧ (0 : Int) = (0 : Int) ∧ (0 : Int) = (0 : Int)) ∧ (y ≤ List.length c.fst ∧ ((factS c f.fst e).fst = (0 : Int) → False)) ∧ List.length c.fst - y < List.length c.fst - x) ∧ ((bif bif ByteArray.toList e == ByteArray.toList (ByteArray.mk (Array.mk [(65 : UInt8)])) then decide ((↑x : Int) < f.fst) else false then true else bif ByteArray.toList e == ByteArray.toList (ByteArray.mk (Array.mk [(66 : UInt8)])) then decide (f.fst < (↑x : Int)) else false) = false → ((-9223372036854775808 : Int) ≤ (↑x : Int) + (1 : Int) ∧ (↑x : Int) + (1 : Int) ≤ (9223372036854775807 : Int)) ∧ ∃ (y : Nat), (e = e ∧ (factS c f.fst e).fst = (factS c f.fst e).fst ∧ (factS c f.fst e).snd = (factS c f.fst e).snd ∧ selS (qR e f.fst) (0 : Nat) (List.take x c.fst) (vc66_0 c f e) = selS (qR e f.fst) (0 : Nat) (List.take y c.fst) (vc66_0 c f e) ∧ (↑x : Int) + (1 : Int) = (↑y : Int) ∧ c.1 = c.fst ∧ c.snd.1 = c.snd.fst ∧ c.snd.snd.fst = c.snd.snd.fst ∧ c.snd.snd.snd = c.snd.snd.snd ∧ f.fst = f.fst ∧ f.snd.fst = f.snd.fst ∧ f.snd.snd.fst = f.snd.snd.fst ∧ f.snd.snd.snd = f.snd.snd.snd ∧ (0 : Int) = (0 : Int) ∧ (0 : Int) = (0 : Int)) ∧ (y ≤ List.length c.fst ∧ ((factS c f.fst e).fst = (0 : Int) → False)) ∧ List.length c.fst - y < List.length c.fst - x)) ∧ (decide ((↑x : Int) < (↑(List.length c.fst) : Int)) = false → (vc66_1 c f e) ∧ (selS (qR e f.fst) (0 : Nat) (List.take x c.fst) (vc66_0 c f e), Int.tdiv (f.snd.snd.snd * (262144 : Int) * (factS c f.fst e).fst) (factS c f.fst e).snd) = dirG c f e ∧ (0 : Int) = dirGE c f e)) ∧ ((ByteArray.toList e == ByteArray.toList (ByteArray.mk (Array.mk [(66 : UInt8)]))) = false → ∃ (x : Nat), (e = e ∧ (factS (c.1, c.snd.1, c.snd.snd.fst, c.snd.snd.snd) f.fst e).fst = (factS c f.fst e).fst ∧ (factS (c.1, c.snd.1, c.snd.snd.fst, c.snd.snd.snd) f.fst e).snd = (factS c f.fst e).snd ∧ f.snd.snd.fst + f.snd.fst = selS (qR e f.fst) (0 : Nat) (List.take x c.fst) (vc66_0 c f e) ∧ (0 : Int) = (↑x : Int) ∧ c.1 = c.fst ∧ c.snd.1 = c.snd.fst ∧ c.snd.snd.fst = c.snd.snd.fst ∧ c.snd.snd.snd = c.snd.snd.snd ∧ f.fst = f.fst ∧ f.snd.fst = f.snd.fst ∧ f.snd.snd.fst = f.snd.snd.fst ∧ f.snd.snd.snd = f.snd.snd.snd ∧ (0 : Int) = (0 : Int) ∧ (0 : Int) = (0 : Int)) ∧ (x ≤ List.length c.fst ∧ ((factS c f.fst e).fst = (0 : Int) → False)) ∧ ∀ (x : Nat), x ≤ List.length c.fst ∧ ((factS c f.fst e).fst = (0 : Int) → False) → (decide ((↑x : Int) < (↑(List.length c.fst) : Int)) = true → ((bif bif ByteArray.toList e == ByteArray.toList (ByteArray.mk (Array.mk [(65 : UInt8)])) then decide ((↑x : Int) < f.fst) else false then true else bif ByteArray.toList e == ByteArray.toList (ByteArray.mk (Array.mk [(66 : UInt8)])) then decide (f.fst < (↑x : Int)) else false) = true → (((0 : Int) ≤ (↑x : Int) ∧ (↑x : Int) < (↑(List.length c.fst) : Int)) ∧ ((0 : Int) ≤ (↑x : Int) ∧ (↑x : Int) < (↑(List.length c.fst) : Int)) ∧ (-9223372036854775808 : Int) ≤ selS (qR e f.fst) (0 : Nat) (List.take x c.fst) (vc66_0 c f e) + (List.getD c.fst x ((0 : Int), (0 : Int))).snd ∧ selS (qR e f.fst) (0 : Nat) (List.take x c.fst) (vc66_0 c f e) + (List.getD c.fst x ((0 : Int), (0 : Int))).snd ≤ (9223372036854775807 : Int)) ∧ ((-9223372036854775808 : Int) ≤ (↑x : Int) + (1 : Int) ∧ (↑x : Int) + (1 : Int) ≤ (9223372036854775807 : Int)) ∧ ∃ (y : Nat), (e = e ∧ (factS c f.fst e).fst = (factS c f.fst e).fst ∧ (factS c f.fst e).snd = (factS c f.fst e).snd ∧ selS (qR e f.fst) (0 : Nat) (List.take x c.fst) (vc66_0 c f e) + (List.getD c.fst x ((0 : Int), (0 : Int))).snd = selS (qR e f.fst) (0 : Nat) (List.take y c.fst) (vc66_0 c f e) ∧ (↑x : Int) + (1 : Int) = (↑y : Int) ∧ c.1 = c.fst ∧ c.snd.1 = c.snd.fst ∧ c.snd.snd.fst = c.snd.snd.fst ∧ c.snd.snd.snd = c.snd.snd.snd ∧ f.fst = f.fst ∧ f.snd.fst = f.snd.fst ∧ f.snd.snd.fst = f.snd.snd.fst ∧ f.snd.snd.snd = f.snd.snd.snd ∧ (0 : Int) = (0 : Int) ∧ (0 : Int) = (0 : Int)) ∧ (y ≤ List.length c.fst ∧ ((factS c f.fst e).fst = (0 : Int) → False)) ∧ List.length c.fst - y < List.length c.fst - x) ∧ ((bif bif ByteArray.toList e == ByteArray.toList (ByteArray.mk (Array.mk [(65 : UInt8)])) then decide ((↑x : Int) < f.fst) else false then true else bif ByteArray.toList e == ByteArray.toList (ByteArray.mk (Array.mk [(66 : UInt8)])) then decide (f.fst < (↑x : Int)) else false) = false → ((-9223372036854775808 : Int) ≤ (↑x : Int) + (1 : Int) ∧ (↑x : Int) + (1 : Int) ≤ (9223372036854775807 : Int)) ∧ ∃ (y : Nat), (e = e ∧ (factS c f.fst e).fst = (factS c f.fst e).fst ∧ (factS c f.fst e).snd = (factS c f.fst e).snd ∧ selS (qR e f.fst) (0 : Nat) (List.take x c.fst) (vc66_0 c f e) = selS (qR e f.fst) (0 : Nat) (List.take y c.fst) (vc66_0 c f e) ∧ (↑x : Int) + (1 : Int) = (↑y : Int) ∧ c.1 = c.fst ∧ c.snd.1 = c.snd.fst ∧ c.snd.snd.fst = c.snd.snd.fst ∧ c.snd.snd.snd = c.snd.snd.snd ∧ f.fst = f.fst ∧ f.snd.fst = f.snd.fst ∧ f.snd.snd.fst = f.snd.snd.fst ∧ f.snd.snd.snd = f.snd.snd.snd ∧ (0 : Int) = (0 : Int) ∧ (0 : Int) = (0 : Int)) ∧ (y ≤ List.length c.fst ∧ ((factS c f.fst e).fst = (0 : Int) → False)) ∧ List.length c.fst - y < List.length c.fst - x)) ∧ (decide ((↑x : Int) < (↑(List.length c.fst) : Int)) = false → (vc66_1 c f e) ∧ (selS (qR e f.fst) (0 : Nat) (List.take x c.fst) (vc66_0 c f e), Int.tdiv (f.snd.snd.snd * (262144 : Int) * (factS c f.fst e).fst) (factS c f.fst e).snd) = dirG c f e ∧ (0 : Int) = dirGE c f e)))) := by
 intros
 kernel_rfl
theorem wp66 (c : Cab) (f : Flt) (e : ByteArray) : wpF Tryz.prog G79 (ann0 (annDirR c f e)) Tryz.f66 cDirectR (c, f, e, ()) := by
 refine (vc66 c f e).mpr ?_
 delta vc66_0 vc66_1
 intro h
 obtain ⟨hf, he⟩ := dirE_zero h
 obtain ⟨hc, hfv⟩ := fltS_V hf
 have hv := hfv.1
 obtain ⟨_, g1, g2, g3, g4, g5⟩ := id hfv
 have hlen := hv.2.1
 have b := hv.2.2.1 _ (getD_mem (d := (0, 0)) (l := c.1) (k := f.1.toNat) (by omega))
 refine ⟨⟨hc, by omega⟩, fun e1 => ?_, fun e1 => ?_⟩
 ·have e1 : (factS c f.1 e).1 = 0 := eq_of_beq e1
  unfold dirG dirGE; rw [if_pos e1, if_pos e1]; exact ⟨rfl, rfl⟩
 have e1 : ¬ (factS c f.1 e).1 = 0 := by
  have e1 : ((factS c f.1 e).1 == 0) = false := e1
  simpa using e1
 have a0 : -100000 ≤ (bif isB e then f.2.2.1 + (c.1.getD f.1.toNat (0, 0)).2 - f.2.1 else f.2.2.1 + f.2.1) ∧ (bif isB e then f.2.2.1 + (c.1.getD f.1.toNat (0, 0)).2 - f.2.1 else f.2.2.1 + f.2.1) ≤ 200000 := by
  cases isB e <;> simp only [cond_true, cond_false] <;> omega
 refine ⟨by omega, fun hB => ⟨⟨g1, g1, by omega, by omega⟩, (0 : Nat), ⟨rfl, rfl, rfl, ?_, rfl, rfl, rfl, rfl, rfl, rfl, rfl, rfl, rfl, rfl, rfl⟩, ⟨Nat.zero_le _, e1⟩, ?_⟩, fun hB => ⟨(0 : Nat), ⟨rfl, rfl, rfl, ?_, rfl, rfl, rfl, rfl, rfl, rfl, rfl, rfl, rfl, rfl, rfl⟩, ⟨Nat.zero_le _, e1⟩, ?_⟩⟩
 ·have hB : isB e = true := hB
  rw [hB]; rfl
 rotate_left
 ·have hB : isB e = false := hB
  rw [hB]; rfl
 all_goals
  intro k hk
  refine ⟨fun hlt => ?_, fun hge => ?_⟩
  ·have hlt : k < c.1.length := by simpa using hlt
   have st := sel_take (q := qR e f.1) (a := bif isB e then f.2.2.1 + (c.1.getD f.1.toNat (0, 0)).2 - f.2.1 else f.2.2.1 + f.2.1) hlt
   have sb := sel_bd (q := qR e f.1) (k := k) hv a0
   have xb := hv.2.2.1 _ (getD_mem (d := (0, 0)) hlt)
   refine ⟨fun c1 => ?_, fun c1 => ?_⟩
   ·have c1 : qR e f.1 k = true := c1
    rw [c1] at st
    exact ⟨⟨by omega, by omega, by omega⟩, by omega, (k + 1 : Nat), ⟨rfl, rfl, rfl, st.symm, by simp, rfl, rfl, rfl, rfl, rfl, rfl, rfl, rfl, rfl, rfl⟩, ⟨hlt, e1⟩, by omega⟩
   ·have c1 : qR e f.1 k = false := c1
    rw [c1] at st
    exact ⟨by omega, (k + 1 : Nat), ⟨rfl, rfl, rfl, st.symm, by simp, rfl, rfl, rfl, rfl, rfl, rfl, rfl, rfl, rfl, rfl⟩, ⟨hlt, e1⟩, by omega⟩
  ·have hge : ¬ k < c.1.length := by simpa using hge
   have et : c.1.take k = c.1 := List.take_of_length_le (by omega)
   have eG : dirG c f e = (tickR c f e, heightR c f e) := if_neg e1
   have eGE : dirGE c f e = 0 := if_neg e1
   exact ⟨ht_bdr hv g4, by rw [eG, et]; rfl, eGE.symm⟩
theorem ok66 [Sx.Dr] : Ok Tryz.prog 66 cDirectR := ok_of_wp mixed g79 (by kernel_rfl) (by kernel_rfl) (fun xx => ann0 (annDirR xx.1 xx.2.1 xx.2.2.1)) fun xx => wp66 xx.1 xx.2.1 xx.2.2.1
abbrev G80 : Gam := (66, cDirectR) :: G79
theorem g80 [Sx.Dr] : GamOk Tryz.prog G80 := .cons ok66 g79
set_option maxHeartbeats 20000000
abbrev Zon : Type := (Int × Int) × Int × Int × ByteArray
abbrev sZ : Sch := .prod sPt (.prod sI (.prod sI .str))
abbrev aZ : AK := .val true sZ
def zoneS (z : Zon) (n : Int) : Int := firstS [if z.1.1 < 0 ∨ z.1.2 ≤ z.1.1 ∨ n < z.1.2 then 14 else 0, withinS z.2.1 1 1024, withinS z.2.2.1 1 1024, endS z.2.2.2]
theorem zone_cond (z : Zon) (n : Int) : (bif (bif decide (z.1.1 < 0) then true else decide (z.1.2 ≤ z.1.1)) then true else decide (n < z.1.2)) = decide (z.1.1 < 0 ∨ z.1.2 ≤ z.1.1 ∨ n < z.1.2) := by
 by_cases h1 : z.1.1 < 0 <;> by_cases h2 : z.1.2 ≤ z.1.1 <;> by_cases h3 : n < z.1.2 <;> simp [h1, h2, h3]
def cZone : Con := { args := [aZ, aI], ress := [I], owns := [], pre := fun _ => [], spec := fun (z, n, _) => (zoneS z n, ()) }
theorem vc121 : ∀ (z : Zon) (n : Int), wpF Tryz.prog G80 (na ()) Tryz.f121 cZone (z, n, ()) = ((4 : Nat) ≤ (1000000 : Nat) ∧ firstS [bif bif bif decide (z.fst.fst < (0 : Int)) then true else decide (z.fst.snd ≤ z.fst.fst) then true else decide (n < z.fst.snd) then (14 : Int) else (0 : Int), withinS z.snd.fst (1 : Int) (1024 : Int), withinS z.snd.snd.fst (1 : Int) (1024 : Int), endS z.snd.snd.snd] = zoneS z n) := by
 intros
 kernel_rfl
theorem wp121 (z : Zon) (n : Int) : wpF Tryz.prog G80 (na ()) Tryz.f121 cZone (z, n, ()) := by
 refine (vc121 z n).mpr ?_
 refine ⟨by omega, ?_⟩
 rw [zone_cond]
 unfold zoneS
 by_cases h : z.1.1 < 0 ∨ z.1.2 ≤ z.1.1 ∨ n < z.1.2
 ·rw [decide_eq_true h, if_pos h]; rfl
 ·rw [decide_eq_false h, if_neg h]; rfl
theorem ok121 [Sx.Dr] : Ok Tryz.prog 121 cZone := ok_of_wp mixed g80 (by kernel_rfl) (by kernel_rfl) na fun xx => wp121 xx.1 xx.2.1
abbrev G81 : Gam := (121, cZone) :: G80
theorem g81 [Sx.Dr] : GamOk Tryz.prog G81 := .cons ok121 g80
theorem vc60 : ∀ (z : Zon) (n : Int), wpF Tryz.prog G81 (na ()) Tryz.f60 cZone (z, n, ()) = (((bif bif decide (z.fst.fst < (0 : Int)) then true else decide (z.fst.snd ≤ z.fst.fst) then true else decide (n < z.fst.snd)) = true → (14 : Int) = zoneS z n) ∧ ((bif bif decide (z.fst.fst < (0 : Int)) then true else decide (z.fst.snd ≤ z.fst.fst) then true else decide (n < z.fst.snd)) = false → (3 : Nat) ≤ (1000000 : Nat) ∧ firstS [withinS z.snd.fst (1 : Int) (1024 : Int), withinS z.snd.snd.fst (1 : Int) (1024 : Int), endS z.snd.snd.snd] = zoneS z n)) := by
 intros
 kernel_rfl
theorem wp60 (z : Zon) (n : Int) : wpF Tryz.prog G81 (na ()) Tryz.f60 cZone (z, n, ()) := by
 refine (vc60 z n).mpr ?_
 rw [zone_cond]
 unfold zoneS
 refine ⟨fun h => ?_, fun h => ⟨by omega, ?_⟩⟩
 ·rw [if_pos (of_decide_eq_true h)]; rfl
 ·rw [if_neg (of_decide_eq_false h)]; rfl
theorem ok60 [Sx.Dr] : Ok Tryz.prog 60 cZone := ok_of_wp mixed g81 (by kernel_rfl) (by kernel_rfl) na fun xx => wp60 xx.1 xx.2.1
abbrev G82 : Gam := (60, cZone) :: G81
theorem g82 [Sx.Dr] : GamOk Tryz.prog G82 := .cons ok60 g81
theorem zoneS_V {z : Zon} {n : Int} (h : zoneS z n = 0) : (0 ≤ z.1.1 ∧ z.1.1 < z.1.2 ∧ z.1.2 ≤ n) ∧ (1 ≤ z.2.1 ∧ z.2.1 ≤ 1024) ∧ (1 ≤ z.2.2.1 ∧ z.2.2.1 ≤ 1024) ∧ endS z.2.2.2 = 0 := by
 have hz := firstS_zero (show firstS [_, _, _, _] = 0 from h)
 simp only [List.mem_cons, List.not_mem_nil, or_false, forall_eq_or_imp, forall_eq] at hz
 obtain ⟨a1, a2, a3, a4⟩ := hz
 have b2 := within_zero.1 a2
 have b3 := within_zero.1 a3
 have b1 : ¬ (z.1.1 < 0 ∨ z.1.2 ≤ z.1.1 ∨ n < z.1.2) := fun q => by rw [if_pos q] at a1; cases a1
 exact ⟨by omega, b2, b3, a4⟩
set_option maxHeartbeats 20000000
def oneS (c : Cab) (e : ByteArray) (k : Nat) : Int := (262144 : Int).tdiv (factS c k e).2 * (factS c k e).1
def thStep (c : Cab) (z : Zon) (k : Nat) (p : Int × Int) : Int × Int := if z.1.1 ≤ (k : Int) ∧ (k : Int) < z.1.2 then (p.1, min p.2 (z.2.1 * oneS c z.2.2.2 k)) else (max p.1 (z.2.2.1 * oneS c z.2.2.2 k + 1), p.2)
def thN (c : Cab) (z : Zon) (hi : Int) : Nat → Int × Int
 | 0 => (1, hi)
 | k + 1 => thStep c z k (thN c z hi k)
theorem rel_step {k i : Nat} {e : ByteArray} {s r : Int} {p : Int × Int} (h : facOk k p) (hp : p.1 ≤ 2 ^ k * p.2) (hd : 1 ≤ p.2) (hr : -8 ≤ r ∧ r ≤ 8) : (stepF e s i r p).1 ≤ 2 ^ (k + 1) * (stepF e s i r p).2 ∧ 1 ≤ (stepF e s i r p).2 := by
 obtain ⟨⟨h1, _⟩, _⟩ := h
 rw [Int.pow_succ]
 have h2 : (0 : Int) ≤ 2 ^ k := Int.le_of_lt (Int.pow_pos (by decide))
 generalize (2 : Int) ^ k = y at hp h2 ⊢
 have key : ∀ q : Int, 0 ≤ q ∧ q ≤ 16 → p.1 * q ≤ y * 2 * (p.2 * 8) ∧ 1 ≤ p.2 * 8 := fun q hq => by
  have a1 : p.1 * q ≤ p.1 * 16 := Int.mul_le_mul_of_nonneg_left hq.2 h1
  have a2 : y * 2 * (p.2 * 8) = y * p.2 * 16 := by rw [Int.mul_assoc, show 2 * (p.2 * 8) = p.2 * 16 by omega, ← Int.mul_assoc]
  rw [a2]; omega
 have same : p.1 ≤ y * 2 * p.2 ∧ 1 ≤ p.2 := by
  have a2 : y * 2 * p.2 = y * p.2 * 2 := by rw [Int.mul_assoc, Int.mul_comm 2, ← Int.mul_assoc]
  have a3 : 0 ≤ y * p.2 := Int.mul_nonneg h2 (by omega)
  rw [a2]; omega
 unfold stepF
 cases (bif isB e then decide (s ≤ (i : Int)) else false) with
 | true => exact key (8 + r) (by omega)
 | false =>
  cases (bif isA e then decide ((i : Int) < s) else false) with
  | true => exact key (8 - r) (by omega)
  | false => exact same
theorem rel_go {e : ByteArray} {s : Int} : ∀ {l : List Int} {i k : Nat} {p : Int × Int}, facOk k p → p.1 ≤ 2 ^ k * p.2 → 1 ≤ p.2 → (∀ r ∈ l, -8 ≤ r ∧ r ≤ 8) → (facGo e s i l p).1 ≤ 2 ^ (k + l.length) * (facGo e s i l p).2
 | [], _, _, _, _, h, _, _ => h
 | r :: l, i, k, p, h, hp, hd, hl => by
  have hr := hl r (by simp)
  have st := rel_step (i := i) (e := e) (s := s) h hp hd hr
  have := rel_go (e := e) (s := s) (l := l) (i := i + 1) (facOk_step (i := i) (e := e) (s := s) h hr) st.1 st.2 fun x hx => hl x (by simp [hx])
  rw [show k + 1 + l.length = k + (r :: l).length by simp only [List.length_cons]; omega] at this
  exact this
theorem pow2 {k : Nat} (h : k ≤ 5) : (2 : Int) ^ k ≤ 32 := by
 have : ∀ j, j < 6 → (2 : Int) ^ j ≤ 32 := by decide
 exact this k (by omega)
theorem oneS_bd {c : Cab} {e : ByteArray} {k : Nat} (hv : cabV c) : 0 ≤ oneS c e k ∧ oneS c e k ≤ 8388608 := by
 have hb := factS_bd (s := k) (e := e) hv
 have hr : (factS c k e).1 ≤ 2 ^ (0 + c.2.1.length) * (factS c k e).2 := rel_go (p := (1, 1)) ⟨⟨by decide, by decide⟩, 0, Nat.le_refl _, rfl⟩ (by decide) (by decide) hv.2.2.2.2.1
 have hl : 0 + c.2.1.length ≤ 5 := by have := hv.2.1; have := hv.2.2.2.1; omega
 have h2 := pow2 hl
 have a1 : (2 : Int) ^ (0 + c.2.1.length) * (factS c k e).2 ≤ 32 * (factS c k e).2 := Int.mul_le_mul_of_nonneg_right h2 (by omega)
 obtain ⟨_, j, hj, hd⟩ := factS_ok (s := k) (e := e) hv
 have hu := height_eq (H := 1) (n := (factS c k e).1) (d := (factS c k e).2) (j := j) (by have := hv.2.1; have := hv.2.2.2.1; omega) hd
 rw [Int.one_mul, Int.one_mul] at hu
 have e1 : oneS c e k = (262144 * (factS c k e).1).tdiv (factS c k e).2 := hu
 rw [e1, Int.tdiv_eq_ediv_of_nonneg (by omega)]
 refine ⟨Int.ediv_nonneg (by omega) (by omega), ?_⟩
 exact Int.ediv_le_of_le_mul (by omega) (by omega)
def thE (c : Cab) (z : Zon) : Int := firstS [cabS c, zoneS z c.1.length]
def thG (c : Cab) (z : Zon) : Int × Int := thN c z 1099511627776 c.1.length
def thF (c : Cab) (z : Zon) : Int × Int := if thE c z = 0 then (if (thG c z).2 < (thG c z).1 then (0, 0) else thG c z) else (0, 0)
def thEE (c : Cab) (z : Zon) : Int := if thE c z = 0 then (if (thG c z).2 < (thG c z).1 then 18 else 0) else thE c z
theorem thN_rel {c : Cab} {z : Zon} {A B : Int} (h : B ≤ A) : ∀ k, (thN c z A k).1 = (thN c z B k).1 ∧ (thN c z B k).2 = min B (thN c z A k).2
 | 0 => ⟨rfl, by show B = min B A; omega⟩
 | k + 1 => by
  obtain ⟨h1, h2⟩ := thN_rel (c := c) (z := z) h k
  simp only [thN, thStep]
  split
  ·refine ⟨h1, ?_⟩
   show min (thN c z B k).2 _ = min B (min (thN c z A k).2 _)
   omega
  ·exact ⟨by show max _ _ = max _ _; rw [h1], h2⟩
theorem mul_one_bd {c : Cab} {e : ByteArray} {k : Nat} (hv : cabV c) {n : Int} (hn : 1 ≤ n ∧ n ≤ 1024) : 0 ≤ n * oneS c e k ∧ n * oneS c e k ≤ 8589934592 := by
 have h := oneS_bd (e := e) (k := k) hv
 refine ⟨Int.mul_nonneg (by omega) h.1, ?_⟩
 have := Int.mul_le_mul hn.2 h.2 h.1 (by decide : (0 : Int) ≤ 1024)
 omega
theorem thN_le {c : Cab} {z : Zon} {A : Int} (hv : cabV c) (hz : zoneS z c.1.length = 0) : ∀ k : Nat, z.1.1 < (k : Int) → (thN c z A k).2 ≤ 8589934592
 | 0, h => by have := (zoneS_V hz).1; omega
 | k + 1, h => by
  have hZ := zoneS_V hz
  simp only [thN, thStep]
  by_cases e : z.1.1 = k
  ·rw [if_pos ⟨by omega, by omega⟩]
   have := mul_one_bd (e := z.2.2.2) (k := k) hv hZ.2.1
   show min _ _ ≤ _
   omega
  ·have ih := thN_le (A := A) hv hz k (by omega)
   split
   ·show min _ _ ≤ _
    omega
   ·exact ih
theorem thN_eq {c : Cab} {z : Zon} (hv : cabV c) (hz : zoneS z c.1.length = 0) : thN c z 1152921504606846976 c.1.length = thG c z := by
 have h := thN_rel (c := c) (z := z) (A := 1152921504606846976) (B := 1099511627776) (by decide) c.1.length
 have hl := thN_le (A := 1152921504606846976) hv hz c.1.length (by have := (zoneS_V hz).1; omega)
 unfold thG
 exact Prod.ext h.1 (by rw [h.2]; omega)
theorem thE_zero {c : Cab} {z : Zon} (h : thE c z = 0) : cabS c = 0 ∧ zoneS z c.1.length = 0 := by
 have hz := firstS_zero (show firstS [cabS c, zoneS z c.1.length] = 0 from h)
 simp only [List.mem_cons, List.not_mem_nil, or_false, forall_eq_or_imp, forall_eq] at hz
 exact hz
theorem zin {z : Zon} {k : Nat} : (bif decide (z.1.1 ≤ (k : Int)) then decide ((k : Int) < z.1.2) else false) = decide (z.1.1 ≤ (k : Int) ∧ (k : Int) < z.1.2) := by
 by_cases h1 : z.1.1 ≤ (k : Int) <;> by_cases h2 : (k : Int) < z.1.2 <;> simp [h1, h2]
theorem one_bds {c : Cab} {e : ByteArray} {k : Nat} (hv : cabV c) : ((factS c k e).2 = 0 → False) ∧ (-9223372036854775808 ≤ (262144 : Int).tdiv (factS c k e).2 ∧ (262144 : Int).tdiv (factS c k e).2 ≤ 9223372036854775807) ∧ -9223372036854775808 ≤ oneS c e k ∧ oneS c e k ≤ 9223372036854775807 := by
 have hb := factS_bd (s := k) (e := e) hv
 have t := tdiv_bd (a := 262144) (g := (factS c k e).2) (B := 262144) ⟨by decide, by decide⟩
 have h := oneS_bd (e := e) (k := k) hv
 exact ⟨by omega, by omega, by omega⟩
def cThresh : Con := { args := [aC, aZ], ress := [Pr, I], owns := [], pre := fun (c, _) => [c.1.length ≤ 1000000, c.2.1.length ≤ 1000000], spec := fun (c, z, _) => (thF c z, thEE c z, ()) }
abbrev annThr (c : Cab) (z : Zon) : Ann := { X := Nat, σ := fun k => ⟨6, [(2, .one (.ptr 2 0)), (3, .one (.ptr 3 0)), (4, .one (.ptr 4 0)), (7, .one (.ptr 5 0)), (28, .one (.int .i64 c.1.length)), (29, .one (.int .i64 k))], [(0, .imm 166 sPt c.1), (1, .imm 3 sI c.2.1), (2, .box 37 [.sl 0, .sl 1, .int .i64 c.2.2.1, .int .i64 c.2.2.2]), (3, .box 122 [.int .i64 z.1.1, .int .i64 z.1.2, .int .i64 z.2.1, .int .i64 z.2.2.1, .str z.2.2.2]), (4, .box 66 [.int .i64 0, .int .i64 0]), (5, .box 66 [.int .i64 (thN c z 1152921504606846976 k).1, .int .i64 (thN c z 1152921504606846976 k).2])]⟩, inv := fun k => k ≤ c.1.length ∧ thE c z = 0, mu := fun k => c.1.length - k }
def vc58_0 (c : Cab) (z : Zon) := (c.1, c.snd.1, c.snd.snd.fst, c.snd.snd.snd)
theorem vc58 : ∀ (c : Cab) (z : Zon), wpF Tryz.prog G82 (ann0 (annThr c z)) Tryz.f58 cThresh (c, z, ()) = (List.length c.fst ≤ (1000000 : Nat) → List.length c.snd.fst ≤ (1000000 : Nat) → (List.length c.1 ≤ (1000000 : Nat) ∧ List.length c.snd.1 ≤ (1000000 : Nat) ∧ (2 : Nat) ≤ (1000000 : Nat)) ∧ ((firstS [cabS (vc58_0 c z), zoneS ((z.fst.fst, z.fst.snd), z.snd.fst, z.snd.snd.fst, z.snd.snd.snd) (↑(List.length c.fst) : Int)] != (0 : Int)) = true → ((0 : Int), (0 : Int)) = thF c z ∧ firstS [cabS (vc58_0 c z), zoneS ((z.fst.fst, z.fst.snd), z.snd.fst, z.snd.snd.fst, z.snd.snd.snd) (↑(List.length c.fst) : Int)] = thEE c z) ∧ ((firstS [cabS (vc58_0 c z), zoneS ((z.fst.fst, z.fst.snd), z.snd.fst, z.snd.snd.fst, z.snd.snd.snd) (↑(List.length c.fst) : Int)] != (0 : Int)) = false → ∃ (x : Nat), ((↑(List.length c.fst) : Int) = (↑(List.length c.fst) : Int) ∧ (0 : Int) = (↑x : Int) ∧ c.1 = c.fst ∧ c.snd.1 = c.snd.fst ∧ c.snd.snd.fst = c.snd.snd.fst ∧ c.snd.snd.snd = c.snd.snd.snd ∧ z.fst.fst = z.fst.fst ∧ z.fst.snd = z.fst.snd ∧ z.snd.fst = z.snd.fst ∧ z.snd.snd.fst = z.snd.snd.fst ∧ z.snd.snd.snd = z.snd.snd.snd ∧ (0 : Int) = (0 : Int) ∧ (0 : Int) = (0 : Int) ∧ (1 : Int) = (thN c z (1152921504606846976 : Int) x).fst ∧ (1152921504606846976 : Int) = (thN c z (1152921504606846976 : Int) x).snd) ∧ (x ≤ List.length c.fst ∧ thE c z = (0 : Int)) ∧ ∀ (x : Nat), x ≤ List.length c.fst ∧ thE c z = (0 : Int) → (decide ((↑x : Int) < (↑(List.length c.fst) : Int)) = true → (cabS (vc58_0 c z) = (0 : Int) ∧ (-1000 : Int) ≤ (↑x : Int) ∧ (↑x : Int) ≤ (1000 : Int)) ∧ (((factS (vc58_0 c z) (↑x : Int) z.snd.snd.snd).snd = (0 : Int) → False) ∧ ((-9223372036854775808 : Int) ≤ Int.tdiv (262144 : Int) (factS (vc58_0 c z) (↑x : Int) z.snd.snd.snd).snd ∧ Int.tdiv (262144 : Int) (factS (vc58_0 c z) (↑x : Int) z.snd.snd.snd).snd ≤ (9223372036854775807 : Int)) ∧ (-9223372036854775808 : Int) ≤ Int.tdiv (262144 : Int) (factS (vc58_0 c z) (↑x : Int) z.snd.snd.snd).snd * (factS (vc58_0 c z) (↑x : Int) z.snd.snd.snd).fst ∧ Int.tdiv (262144 : Int) (factS (vc58_0 c z) (↑x : Int) z.snd.snd.snd).snd * (factS (vc58_0 c z) (↑x : Int) z.snd.snd.snd).fst ≤ (9223372036854775807 : Int)) ∧ ((bif decide (z.fst.fst ≤ (↑x : Int)) then decide ((↑x : Int) < z.fst.snd) else false) = true → ((-9223372036854775808 : Int) ≤ z.snd.fst * (Int.tdiv (262144 : Int) (factS (vc58_0 c z) (↑x : Int) z.snd.snd.snd).snd * (factS (vc58_0 c z) (↑x : Int) z.snd.snd.snd).fst) ∧ z.snd.fst * (Int.tdiv (262144 : Int) (factS (vc58_0 c z) (↑x : Int) z.snd.snd.snd).snd * (factS (vc58_0 c z) (↑x : Int) z.snd.snd.snd).fst) ≤ (9223372036854775807 : Int)) ∧ ((-9223372036854775808 : Int) ≤ (↑x : Int) + (1 : Int) ∧ (↑x : Int) + (1 : Int) ≤ (9223372036854775807 : Int)) ∧ ∃ (y : Nat), ((↑(List.length c.fst) : Int) = (↑(List.length c.fst) : Int) ∧ (↑x : Int) + (1 : Int) = (↑y : Int) ∧ c.1 = c.fst ∧ c.snd.1 = c.snd.fst ∧ c.snd.snd.fst = c.snd.snd.fst ∧ c.snd.snd.snd = c.snd.snd.snd ∧ z.fst.fst = z.fst.fst ∧ z.fst.snd = z.fst.snd ∧ z.snd.fst = z.snd.fst ∧ z.snd.snd.fst = z.snd.snd.fst ∧ z.snd.snd.snd = z.snd.snd.snd ∧ (0 : Int) = (0 : Int) ∧ (0 : Int) = (0 : Int) ∧ (thN c z (1152921504606846976 : Int) x).fst = (thN c z (1152921504606846976 : Int) y).fst ∧ min (thN c z (1152921504606846976 : Int) x).snd (z.snd.fst * (Int.tdiv (262144 : Int) (factS (vc58_0 c z) (↑x : Int) z.snd.snd.snd).snd * (factS (vc58_0 c z) (↑x : Int) z.snd.snd.snd).fst)) = (thN c z (1152921504606846976 : Int) y).snd) ∧ (y ≤ List.length c.fst ∧ thE c z = (0 : Int)) ∧ List.length c.fst - y < List.length c.fst - x) ∧ ((bif decide (z.fst.fst ≤ (↑x : Int)) then decide ((↑x : Int) < z.fst.snd) else false) = false → (((-9223372036854775808 : Int) ≤ z.snd.snd.fst * (Int.tdiv (262144 : Int) (factS (vc58_0 c z) (↑x : Int) z.snd.snd.snd).snd * (factS (vc58_0 c z) (↑x : Int) z.snd.snd.snd).fst) ∧ z.snd.snd.fst * (Int.tdiv (262144 : Int) (factS (vc58_0 c z) (↑x : Int) z.snd.snd.snd).snd * (factS (vc58_0 c z) (↑x : Int) z.snd.snd.snd).fst) ≤ (9223372036854775807 : Int)) ∧ (-9223372036854775808 : Int) ≤ z.snd.snd.fst * (Int.tdiv (262144 : Int) (factS (vc58_0 c z) (↑x : Int) z.snd.snd.snd).snd * (factS (vc58_0 c z) (↑x : Int) z.snd.snd.snd).fst) + (1 : Int) ∧ z.snd.snd.fst * (Int.tdiv (262144 : Int) (factS (vc58_0 c z) (↑x : Int) z.snd.snd.snd).snd * (factS (vc58_0 c z) (↑x : Int) z.snd.snd.snd).fst) + (1 : Int) ≤ (9223372036854775807 : Int)) ∧ ((-9223372036854775808 : Int) ≤ (↑x : Int) + (1 : Int) ∧ (↑x : Int) + (1 : Int) ≤ (9223372036854775807 : Int)) ∧ ∃ (y : Nat), ((↑(List.length c.fst) : Int) = (↑(List.length c.fst) : Int) ∧ (↑x : Int) + (1 : Int) = (↑y : Int) ∧ c.1 = c.fst ∧ c.snd.1 = c.snd.fst ∧ c.snd.snd.fst = c.snd.snd.fst ∧ c.snd.snd.snd = c.snd.snd.snd ∧ z.fst.fst = z.fst.fst ∧ z.fst.snd = z.fst.snd ∧ z.snd.fst = z.snd.fst ∧ z.snd.snd.fst = z.snd.snd.fst ∧ z.snd.snd.snd = z.snd.snd.snd ∧ (0 : Int) = (0 : Int) ∧ (0 : Int) = (0 : Int) ∧ max (thN c z (1152921504606846976 : Int) x).fst (z.snd.snd.fst * (Int.tdiv (262144 : Int) (factS (vc58_0 c z) (↑x : Int) z.snd.snd.snd).snd * (factS (vc58_0 c z) (↑x : Int) z.snd.snd.snd).fst) + (1 : Int)) = (thN c z (1152921504606846976 : Int) y).fst ∧ (thN c z (1152921504606846976 : Int) x).snd = (thN c z (1152921504606846976 : Int) y).snd) ∧ (y ≤ List.length c.fst ∧ thE c z = (0 : Int)) ∧ List.length c.fst - y < List.length c.fst - x)) ∧ (decide ((↑x : Int) < (↑(List.length c.fst) : Int)) = false → (decide ((thN c z (1152921504606846976 : Int) x).snd < (thN c z (1152921504606846976 : Int) x).fst) = true → ((0 : Int), (0 : Int)) = thF c z ∧ (18 : Int) = thEE c z) ∧ (decide ((thN c z (1152921504606846976 : Int) x).snd < (thN c z (1152921504606846976 : Int) x).fst) = false → ((thN c z (1152921504606846976 : Int) x).fst, (thN c z (1152921504606846976 : Int) x).snd) = thF c z ∧ (0 : Int) = thEE c z)))) := by
 intros
 kernel_rfl
theorem wp58 (c : Cab) (z : Zon) : wpF Tryz.prog G82 (ann0 (annThr c z)) Tryz.f58 cThresh (c, z, ()) := by
 refine (vc58 c z).mpr ?_
 delta vc58_0
 intro h1 h2
 refine ⟨⟨h1, h2, by omega⟩, fun h => ?_, fun h => ?_⟩
 ·have h : ¬ thE c z = 0 := bne_iff_ne.1 h
  unfold thF thEE; rw [if_neg h, if_neg h]; exact ⟨rfl, rfl⟩
 have h : thE c z = 0 := bne_eq_false_iff_eq.1 h
 obtain ⟨hc, hz⟩ := thE_zero h
 have hv : cabV c := cabS_V hc
 have hZ := zoneS_V hz
 have hlen := hv.2.1
 refine ⟨(0 : Nat), ⟨rfl, rfl, rfl, rfl, rfl, rfl, rfl, rfl, rfl, rfl, rfl, rfl, rfl, rfl, rfl⟩, ⟨Nat.zero_le _, h⟩, fun (k : Nat) hk => ⟨fun hlt => ?_, fun hge => ?_⟩⟩
 ·have hlt : k < c.1.length := by simpa using hlt
  have b1 := one_bds (e := z.2.2.2) (k := k) hv
  have b2 := mul_one_bd (e := z.2.2.2) (k := k) hv hZ.2.1
  have b3 := mul_one_bd (e := z.2.2.2) (k := k) hv hZ.2.2.1
  have b2' : -9223372036854775808 ≤ z.2.1 * oneS c z.2.2.2 k ∧ z.2.1 * oneS c z.2.2.2 k ≤ 9223372036854775807 := by omega
  have b3' : (-9223372036854775808 ≤ z.2.2.1 * oneS c z.2.2.2 k ∧ z.2.2.1 * oneS c z.2.2.2 k ≤ 9223372036854775807) ∧ -9223372036854775808 ≤ z.2.2.1 * oneS c z.2.2.2 k + 1 ∧ z.2.2.1 * oneS c z.2.2.2 k + 1 ≤ 9223372036854775807 := by omega
  have st : thN c z 1152921504606846976 (k + 1) = thStep c z k (thN c z 1152921504606846976 k) := rfl
  rw [zin]
  refine ⟨⟨hc, by omega⟩, b1, fun q => ?_, fun q => ?_⟩
  ·have q := of_decide_eq_true q
   have e1 : thStep c z k (thN c z 1152921504606846976 k) = ((thN c z 1152921504606846976 k).1, min (thN c z 1152921504606846976 k).2 (z.2.1 * oneS c z.2.2.2 k)) := if_pos q
   rw [e1] at st
   exact ⟨b2', by omega, (k + 1 : Nat), ⟨rfl, by simp, rfl, rfl, rfl, rfl, rfl, rfl, rfl, rfl, rfl, rfl, rfl, by rw [st], by rw [st]; rfl⟩, ⟨hlt, h⟩, by omega⟩
  ·have q := of_decide_eq_false q
   have e1 : thStep c z k (thN c z 1152921504606846976 k) = (max (thN c z 1152921504606846976 k).1 (z.2.2.1 * oneS c z.2.2.2 k + 1), (thN c z 1152921504606846976 k).2) := if_neg q
   rw [e1] at st
   exact ⟨b3', by omega, (k + 1 : Nat), ⟨rfl, by simp, rfl, rfl, rfl, rfl, rfl, rfl, rfl, rfl, rfl, rfl, rfl, by rw [st]; rfl, by rw [st]⟩, ⟨hlt, h⟩, by omega⟩
 ·have hge : ¬ k < c.1.length := by simpa using hge
  have ek : k = c.1.length := by omega
  rw [ek, thN_eq hv hz]
  have eF : thF c z = if (thG c z).2 < (thG c z).1 then (0, 0) else thG c z := if_pos h
  have eE : thEE c z = if (thG c z).2 < (thG c z).1 then 18 else 0 := if_pos h
  rw [eF, eE]
  refine ⟨fun q => ?_, fun q => ?_⟩
  ·have q := of_decide_eq_true q
   rw [if_pos q, if_pos q]; exact ⟨rfl, rfl⟩
  ·have q := of_decide_eq_false q
   rw [if_neg q, if_neg q]; exact ⟨rfl, rfl⟩
theorem ok58 [Sx.Dr] : Ok Tryz.prog 58 cThresh := ok_of_wp mixed g82 (by kernel_rfl) (by kernel_rfl) (fun xx => ann0 (annThr xx.1 xx.2.1)) fun xx => wp58 xx.1 xx.2.1
abbrev G83 : Gam := (58, cThresh) :: G82
theorem g83 [Sx.Dr] : GamOk Tryz.prog G83 := .cons ok58 g82
set_option maxHeartbeats 20000000
theorem one_eq {c : Cab} {e : ByteArray} {k : Nat} (hv : cabV c) (n : Int) : (n * 262144 * (factS c k e).1).tdiv (factS c k e).2 = n * oneS c e k := by
 obtain ⟨_, j, hj, hd⟩ := factS_ok (s := k) (e := e) hv
 have hu := height_eq (H := n) (n := (factS c k e).1) (d := (factS c k e).2) (j := j) (by have := hv.2.1; have := hv.2.2.2.1; omega) hd
 rw [← hu, Int.mul_assoc]; rfl
def thGF (c : Cab) (z : Zon) : Int × Int := if (thG c z).2 < (thG c z).1 then (0, 0) else thG c z
def thGE (c : Cab) (z : Zon) : Int := if (thG c z).2 < (thG c z).1 then 18 else 0
def cThreshR : Con := { args := [aCR, aZ], ress := [Pr, I], owns := [], pre := fun (c, z, _) => [thE c z = 0], spec := fun (c, z, _) => (thGF c z, thGE c z, ()) }
abbrev annThrR (c : Cab) (z : Zon) : Ann := { X := Nat, σ := fun k => ⟨6, [(2, .one (.ptr 2 0)), (3, .one (.ptr 3 0)), (4, .one (.ptr 4 0)), (6, .one (.ptr 5 0)), (7, .one (.int .i64 k))], [(0, .imm 102 sPt c.1), (1, .imm 3 sI c.2.1), (2, .box 26 [.sl 0, .sl 1, .int .i64 c.2.2.1, .int .i64 c.2.2.2]), (3, .box 119 [.int .i64 z.1.1, .int .i64 z.1.2, .int .i64 z.2.1, .int .i64 z.2.2.1, .str z.2.2.2]), (4, .box 66 [.int .i64 0, .int .i64 0]), (5, .box 66 [.int .i64 (thN c z 1099511627776 k).1, .int .i64 (thN c z 1099511627776 k).2])]⟩, inv := fun k => k ≤ c.1.length, mu := fun k => c.1.length - k }
def vc61_0 (c : Cab) (z : Zon) := (c.1, c.snd.1, c.snd.snd.fst, c.snd.snd.snd)
theorem vc61 : ∀ (c : Cab) (z : Zon), wpF Tryz.prog G83 (ann0 (annThrR c z)) Tryz.f61 cThreshR (c, z, ()) = (thE c z = (0 : Int) → ∃ (x : Nat), ((0 : Int) = (↑x : Int) ∧ c.1 = c.fst ∧ c.snd.1 = c.snd.fst ∧ c.snd.snd.fst = c.snd.snd.fst ∧ c.snd.snd.snd = c.snd.snd.snd ∧ z.fst.fst = z.fst.fst ∧ z.fst.snd = z.fst.snd ∧ z.snd.fst = z.snd.fst ∧ z.snd.snd.fst = z.snd.snd.fst ∧ z.snd.snd.snd = z.snd.snd.snd ∧ (0 : Int) = (0 : Int) ∧ (0 : Int) = (0 : Int) ∧ (1 : Int) = (thN c z (1099511627776 : Int) x).fst ∧ (1099511627776 : Int) = (thN c z (1099511627776 : Int) x).snd) ∧ x ≤ List.length c.fst ∧ ∀ (x : Nat), x ≤ List.length c.fst → (decide ((↑x : Int) < (↑(List.length c.fst) : Int)) = true → (cabS (vc61_0 c z) = (0 : Int) ∧ (-1000 : Int) ≤ (↑x : Int) ∧ (↑x : Int) ≤ (1000 : Int)) ∧ ((bif decide (z.fst.fst ≤ (↑x : Int)) then decide ((↑x : Int) < z.fst.snd) else false) = true → (((-9223372036854775808 : Int) ≤ z.snd.fst * (262144 : Int) ∧ z.snd.fst * (262144 : Int) ≤ (9223372036854775807 : Int)) ∧ ((-9223372036854775808 : Int) ≤ z.snd.fst * (262144 : Int) * (factS (vc61_0 c z) (↑x : Int) z.snd.snd.snd).fst ∧ z.snd.fst * (262144 : Int) * (factS (vc61_0 c z) (↑x : Int) z.snd.snd.snd).fst ≤ (9223372036854775807 : Int)) ∧ ((factS (vc61_0 c z) (↑x : Int) z.snd.snd.snd).snd = (0 : Int) → False) ∧ (-9223372036854775808 : Int) ≤ Int.tdiv (z.snd.fst * (262144 : Int) * (factS (vc61_0 c z) (↑x : Int) z.snd.snd.snd).fst) (factS (vc61_0 c z) (↑x : Int) z.snd.snd.snd).snd ∧ Int.tdiv (z.snd.fst * (262144 : Int) * (factS (vc61_0 c z) (↑x : Int) z.snd.snd.snd).fst) (factS (vc61_0 c z) (↑x : Int) z.snd.snd.snd).snd ≤ (9223372036854775807 : Int)) ∧ ((-9223372036854775808 : Int) ≤ (↑x : Int) + (1 : Int) ∧ (↑x : Int) + (1 : Int) ≤ (9223372036854775807 : Int)) ∧ ∃ (y : Nat), ((↑x : Int) + (1 : Int) = (↑y : Int) ∧ c.1 = c.fst ∧ c.snd.1 = c.snd.fst ∧ c.snd.snd.fst = c.snd.snd.fst ∧ c.snd.snd.snd = c.snd.snd.snd ∧ z.fst.fst = z.fst.fst ∧ z.fst.snd = z.fst.snd ∧ z.snd.fst = z.snd.fst ∧ z.snd.snd.fst = z.snd.snd.fst ∧ z.snd.snd.snd = z.snd.snd.snd ∧ (0 : Int) = (0 : Int) ∧ (0 : Int) = (0 : Int) ∧ (thN c z (1099511627776 : Int) x).fst = (thN c z (1099511627776 : Int) y).fst ∧ min (thN c z (1099511627776 : Int) x).snd (Int.tdiv (z.snd.fst * (262144 : Int) * (factS (vc61_0 c z) (↑x : Int) z.snd.snd.snd).fst) (factS (vc61_0 c z) (↑x : Int) z.snd.snd.snd).snd) = (thN c z (1099511627776 : Int) y).snd) ∧ y ≤ List.length c.fst ∧ List.length c.fst - y < List.length c.fst - x) ∧ ((bif decide (z.fst.fst ≤ (↑x : Int)) then decide ((↑x : Int) < z.fst.snd) else false) = false → (((-9223372036854775808 : Int) ≤ z.snd.snd.fst * (262144 : Int) ∧ z.snd.snd.fst * (262144 : Int) ≤ (9223372036854775807 : Int)) ∧ ((-9223372036854775808 : Int) ≤ z.snd.snd.fst * (262144 : Int) * (factS (vc61_0 c z) (↑x : Int) z.snd.snd.snd).fst ∧ z.snd.snd.fst * (262144 : Int) * (factS (vc61_0 c z) (↑x : Int) z.snd.snd.snd).fst ≤ (9223372036854775807 : Int)) ∧ ((factS (vc61_0 c z) (↑x : Int) z.snd.snd.snd).snd = (0 : Int) → False) ∧ ((-9223372036854775808 : Int) ≤ Int.tdiv (z.snd.snd.fst * (262144 : Int) * (factS (vc61_0 c z) (↑x : Int) z.snd.snd.snd).fst) (factS (vc61_0 c z) (↑x : Int) z.snd.snd.snd).snd ∧ Int.tdiv (z.snd.snd.fst * (262144 : Int) * (factS (vc61_0 c z) (↑x : Int) z.snd.snd.snd).fst) (factS (vc61_0 c z) (↑x : Int) z.snd.snd.snd).snd ≤ (9223372036854775807 : Int)) ∧ (-9223372036854775808 : Int) ≤ Int.tdiv (z.snd.snd.fst * (262144 : Int) * (factS (vc61_0 c z) (↑x : Int) z.snd.snd.snd).fst) (factS (vc61_0 c z) (↑x : Int) z.snd.snd.snd).snd + (1 : Int) ∧ Int.tdiv (z.snd.snd.fst * (262144 : Int) * (factS (vc61_0 c z) (↑x : Int) z.snd.snd.snd).fst) (factS (vc61_0 c z) (↑x : Int) z.snd.snd.snd).snd + (1 : Int) ≤ (9223372036854775807 : Int)) ∧ ((-9223372036854775808 : Int) ≤ (↑x : Int) + (1 : Int) ∧ (↑x : Int) + (1 : Int) ≤ (9223372036854775807 : Int)) ∧ ∃ (y : Nat), ((↑x : Int) + (1 : Int) = (↑y : Int) ∧ c.1 = c.fst ∧ c.snd.1 = c.snd.fst ∧ c.snd.snd.fst = c.snd.snd.fst ∧ c.snd.snd.snd = c.snd.snd.snd ∧ z.fst.fst = z.fst.fst ∧ z.fst.snd = z.fst.snd ∧ z.snd.fst = z.snd.fst ∧ z.snd.snd.fst = z.snd.snd.fst ∧ z.snd.snd.snd = z.snd.snd.snd ∧ (0 : Int) = (0 : Int) ∧ (0 : Int) = (0 : Int) ∧ max (thN c z (1099511627776 : Int) x).fst (Int.tdiv (z.snd.snd.fst * (262144 : Int) * (factS (vc61_0 c z) (↑x : Int) z.snd.snd.snd).fst) (factS (vc61_0 c z) (↑x : Int) z.snd.snd.snd).snd + (1 : Int)) = (thN c z (1099511627776 : Int) y).fst ∧ (thN c z (1099511627776 : Int) x).snd = (thN c z (1099511627776 : Int) y).snd) ∧ y ≤ List.length c.fst ∧ List.length c.fst - y < List.length c.fst - x)) ∧ (decide ((↑x : Int) < (↑(List.length c.fst) : Int)) = false → (decide ((thN c z (1099511627776 : Int) x).snd < (thN c z (1099511627776 : Int) x).fst) = true → ((0 : Int), (0 : Int)) = thGF c z ∧ (18 : Int) = thGE c z) ∧ (decide ((thN c z (1099511627776 : Int) x).snd < (thN c z (1099511627776 : Int) x).fst) = false → ((thN c z (1099511627776 : Int) x).fst, (thN c z (1099511627776 : Int) x).snd) = thGF c z ∧ (0 : Int) = thGE c z))) := by
 intros
 kernel_rfl
theorem wp61 (c : Cab) (z : Zon) : wpF Tryz.prog G83 (ann0 (annThrR c z)) Tryz.f61 cThreshR (c, z, ()) := by
 refine (vc61 c z).mpr ?_
 delta vc61_0
 intro h
 obtain ⟨hc, hz⟩ := thE_zero h
 have hv : cabV c := cabS_V hc
 have hZ := zoneS_V hz
 have hlen := hv.2.1
 refine ⟨(0 : Nat), ⟨rfl, rfl, rfl, rfl, rfl, rfl, rfl, rfl, rfl, rfl, rfl, rfl, rfl, rfl⟩, Nat.zero_le _, fun (k : Nat) hk => ⟨fun hlt => ?_, fun hge => ?_⟩⟩
 ·have hlt : k < c.1.length := by simpa using hlt
  have b2 := ht_bdr (c := c) (s := k) (e := z.2.2.2) (H := z.2.1) hv (by omega)
  have b3 := ht_bdr (c := c) (s := k) (e := z.2.2.2) (H := z.2.2.1) hv (by omega)
  have o2 := one_eq (c := c) (e := z.2.2.2) (k := k) hv z.2.1
  have o3 := one_eq (c := c) (e := z.2.2.2) (k := k) hv z.2.2.1
  have m3 := mul_one_bd (e := z.2.2.2) (k := k) hv hZ.2.2.1
  have st : thN c z 1099511627776 (k + 1) = thStep c z k (thN c z 1099511627776 k) := rfl
  rw [zin]
  refine ⟨⟨hc, by omega⟩, fun q => ?_, fun q => ?_⟩
  ·have q := of_decide_eq_true q
   have e1 : thStep c z k (thN c z 1099511627776 k) = ((thN c z 1099511627776 k).1, min (thN c z 1099511627776 k).2 (z.2.1 * oneS c z.2.2.2 k)) := if_pos q
   rw [e1, ← o2] at st
   exact ⟨b2, by omega, (k + 1 : Nat), ⟨by simp, rfl, rfl, rfl, rfl, rfl, rfl, rfl, rfl, rfl, rfl, rfl, by rw [st], by rw [st]⟩, hlt, by omega⟩
  ·have q := of_decide_eq_false q
   have e1 : thStep c z k (thN c z 1099511627776 k) = (max (thN c z 1099511627776 k).1 (z.2.2.1 * oneS c z.2.2.2 k + 1), (thN c z 1099511627776 k).2) := if_neg q
   rw [e1, ← o3] at st
   have m4 : -9223372036854775808 ≤ (z.2.2.1 * 262144 * (factS c k z.2.2.2).1).tdiv (factS c k z.2.2.2).2 + 1 ∧ (z.2.2.1 * 262144 * (factS c k z.2.2.2).1).tdiv (factS c k z.2.2.2).2 + 1 ≤ 9223372036854775807 := by rw [o3]; omega
   exact ⟨⟨b3.1, b3.2.1, b3.2.2.1, b3.2.2.2, m4⟩, by omega, (k + 1 : Nat), ⟨by simp, rfl, rfl, rfl, rfl, rfl, rfl, rfl, rfl, rfl, rfl, rfl, by rw [st], by rw [st]⟩, hlt, by omega⟩
 ·have hge : ¬ k < c.1.length := by simpa using hge
  have ek : thN c z 1099511627776 k = thG c z := by rw [show k = c.1.length by omega]; rfl
  rw [ek]
  unfold thGF thGE
  refine ⟨fun q => ?_, fun q => ?_⟩
  ·have q := of_decide_eq_true q
   rw [if_pos q, if_pos q]; exact ⟨rfl, rfl⟩
  ·have q := of_decide_eq_false q
   rw [if_neg q, if_neg q]; exact ⟨rfl, rfl⟩
theorem ok61 [Sx.Dr] : Ok Tryz.prog 61 cThreshR := ok_of_wp mixed g83 (by kernel_rfl) (by kernel_rfl) (fun xx => ann0 (annThrR xx.1 xx.2.1)) fun xx => wp61 xx.1 xx.2.1
abbrev G84 : Gam := (61, cThreshR) :: G83
theorem g84 [Sx.Dr] : GamOk Tryz.prog G84 := .cons ok61 g83
set_option maxHeartbeats 20000000
def arrB (l : List Arr) : Prop := ∀ a ∈ l, -80000000000000 ≤ a.2.2 ∧ a.2.2 ≤ 80000000000000
theorem chk_bd : ∀ {l : List Arr} {p : Option Arr}, chkGo p l = 0 → arrB l
 | [], _, _ => fun a ha => by simp at ha
 | a :: r, p, h => by
  simp only [chkGo] at h
  split at h
  ·rename_i h0
   have hz := firstS_zero (show firstS [_, _, _, _] = 0 from h0)
   simp only [List.mem_cons, List.not_mem_nil, or_false, forall_eq_or_imp, forall_eq] at hz
   have b := within_zero.1 hz.2.2.1
   intro x hx
   rcases List.mem_cons.1 hx with rfl | hx
   ·exact ⟨by omega, by omega⟩
   ·exact chk_bd h x hx
  ·rename_i h0; exact absurd h h0
theorem arrE_bd {l : List Arr} (h : arrE l = 0) : arrB l ∧ l.length ≤ 2048 := by
 unfold arrE at h
 split at h
 ·cases h
 ·exact ⟨chk_bd h, by omega⟩
theorem find_bd {l : List Arr} (h : arrB l) (e : ByteArray) : -80000000000000 ≤ ((findA e l).getD dA).2.2 ∧ ((findA e l).getD dA).2.2 ≤ 80000000000000 := by
 cases hf : findA e l with
 | none => exact ⟨by decide, by decide⟩
 | some a => exact h a (List.mem_of_find?_eq_some hf)
def tripS (l : List Arr) (e : ByteArray) (t : Int) : Bool := bif (findA e l).isSome then decide (t ≤ max ((findA e l).getD dA).2.2 (0 - ((findA e l).getD dA).2.2)) else false
def cTrip : Con := { args := [.val false (.list 107 sArr), aS, aI], ress := [Bo], owns := [], pre := fun (l, _) => [l.length ≤ 1000000, arrB l], spec := fun (l, e, t, _) => (tripS l e t, ()) }
theorem vc114 : ∀ (l : List Arr) (e : ByteArray) (t : Int), wpF Tryz.prog G84 (na ()) Tryz.f114 cTrip (l, e, t, ()) = (List.length l ≤ (1000000 : Nat) → arrB l → List.length l ≤ (1000000 : Nat) ∧ (Option.isSome (findA e l) = true → (-9223372036854775808 : Int) ≤ (0 : Int) - (Option.getD (findA e l) dA).snd.snd ∧ (0 : Int) - (Option.getD (findA e l) dA).snd.snd ≤ (9223372036854775807 : Int)) ∧ (bif Option.isSome (findA e l) then decide (t ≤ max (Option.getD (findA e l) dA).snd.snd ((0 : Int) - (Option.getD (findA e l) dA).snd.snd)) else false) = tripS l e t) := by
 intros
 kernel_rfl
theorem wp114 (l : List Arr) (e : ByteArray) (t : Int) : wpF Tryz.prog G84 (na ()) Tryz.f114 cTrip (l, e, t, ()) := by
 refine (vc114 l e t).mpr ?_
 intro h1 h2
 have b := find_bd h2 e
 exact ⟨h1, fun _ => by omega, rfl⟩
theorem ok114 [Sx.Dr] : Ok Tryz.prog 114 cTrip := ok_of_wp mixed g84 (by kernel_rfl) (by kernel_rfl) na fun xx => wp114 xx.1 xx.2.1 xx.2.2.1
abbrev G85 : Gam := (114, cTrip) :: G84
theorem g85 [Sx.Dr] : GamOk Tryz.prog G85 := .cons ok114 g84
def cTripR : Con := { args := [.val false (.list 130 sArr), aS, aI], ress := [Bo], owns := [], pre := fun (l, _) => [l.length ≤ 1000000, arrB l], spec := fun (l, e, t, _) => (tripS l e t, ()) }
theorem vc62 : ∀ (l : List Arr) (e : ByteArray) (t : Int), wpF Tryz.prog G85 (na ()) Tryz.f62 cTripR (l, e, t, ()) = (List.length l ≤ (1000000 : Nat) → arrB l → List.length l ≤ (1000000 : Nat) ∧ (((if Option.isSome (findA e l) = true then (0 : Int) else (7 : Int)) == (0 : Int)) = true → (-9223372036854775808 : Int) ≤ (0 : Int) - (Option.getD (findA e l) dA).snd.snd ∧ (0 : Int) - (Option.getD (findA e l) dA).snd.snd ≤ (9223372036854775807 : Int)) ∧ (bif (if Option.isSome (findA e l) = true then (0 : Int) else (7 : Int)) == (0 : Int) then decide (t ≤ max (Option.getD (findA e l) dA).snd.snd ((0 : Int) - (Option.getD (findA e l) dA).snd.snd)) else false) = tripS l e t) := by
 intros
 kernel_rfl
theorem wp62 (l : List Arr) (e : ByteArray) (t : Int) : wpF Tryz.prog G85 (na ()) Tryz.f62 cTripR (l, e, t, ()) := by
 refine (vc62 l e t).mpr ?_
 intro h1 h2
 have b := find_bd h2 e
 refine ⟨h1, fun _ => by omega, ?_⟩
 unfold tripS
 cases (findA e l).isSome <;> rfl
theorem ok62 [Sx.Dr] : Ok Tryz.prog 62 cTripR := ok_of_wp mixed g85 (by kernel_rfl) (by kernel_rfl) na fun xx => wp62 xx.1 xx.2.1 xx.2.2.1
abbrev G86 : Gam := (62, cTripR) :: G85
theorem g86 [Sx.Dr] : GamOk Tryz.prog G86 := .cons ok62 g85
def tripE (l : List Arr) (z : Zon) (t : Int) : Int := firstS [arrE l, zoneS z 6, thrS t]
def tripF (l : List Arr) (z : Zon) (t : Int) : Bool := if tripE l z t = 0 then tripS l z.2.2.2 t else false
def cTrips : Con := { args := [.val false (.list 107 sArr), aZ, aI], ress := [Bo, I], owns := [], pre := fun (l, _) => [l.length ≤ 1000000], spec := fun (l, z, t, _) => (tripF l z t, tripE l z t, ()) }
theorem vc59 : ∀ (l : List Arr) (z : Zon) (t : Int), wpF Tryz.prog G86 (na ()) Tryz.f59 cTrips (l, z, t, ()) = (List.length l ≤ (1000000 : Nat) → (List.length l ≤ (1000000 : Nat) ∧ (3 : Nat) ≤ (1000000 : Nat)) ∧ ((firstS [arrE l, zoneS ((z.fst.fst, z.fst.snd), z.snd.fst, z.snd.snd.fst, z.snd.snd.snd) (6 : Int), thrS t] != (0 : Int)) = true → false = tripF l z t ∧ firstS [arrE l, zoneS ((z.fst.fst, z.fst.snd), z.snd.fst, z.snd.snd.fst, z.snd.snd.snd) (6 : Int), thrS t] = tripE l z t) ∧ ((firstS [arrE l, zoneS ((z.fst.fst, z.fst.snd), z.snd.fst, z.snd.snd.fst, z.snd.snd.snd) (6 : Int), thrS t] != (0 : Int)) = false → (List.length l ≤ (1000000 : Nat) ∧ arrB l) ∧ tripS l z.snd.snd.snd t = tripF l z t ∧ (0 : Int) = tripE l z t)) := by
 intros
 kernel_rfl
theorem wp59 (l : List Arr) (z : Zon) (t : Int) : wpF Tryz.prog G86 (na ()) Tryz.f59 cTrips (l, z, t, ()) := by
 refine (vc59 l z t).mpr ?_
 intro h1
 refine ⟨⟨h1, by omega⟩, fun h => ?_, fun h => ?_⟩
 ·have h : ¬ tripE l z t = 0 := bne_iff_ne.1 h
  unfold tripF; rw [if_neg h]; exact ⟨rfl, rfl⟩
 ·have h : tripE l z t = 0 := bne_eq_false_iff_eq.1 h
  have hz := firstS_zero (show firstS [arrE l, zoneS z 6, thrS t] = 0 from h)
  simp only [List.mem_cons, List.not_mem_nil, or_false, forall_eq_or_imp, forall_eq] at hz
  unfold tripF; rw [if_pos h]
  exact ⟨⟨h1, (arrE_bd hz.1).1⟩, rfl, h.symm⟩
theorem ok59 [Sx.Dr] : Ok Tryz.prog 59 cTrips := ok_of_wp mixed g86 (by kernel_rfl) (by kernel_rfl) na fun xx => wp59 xx.1 xx.2.1 xx.2.2.1
abbrev G87 : Gam := (59, cTrips) :: G86
theorem g87 [Sx.Dr] : GamOk Tryz.prog G87 := .cons ok59 g86
set_option maxHeartbeats 20000000
def okAt (e : ByteArray) (t : Int) (a : Arr) : Bool := bif isEnd e a then decide (a.1 ≤ t) else false
def sumGo (e : ByteArray) (t : Int) : List Arr → Int → Int
 | [], n => n
 | a :: r, n => sumGo e t r (bif okAt e t a then n + a.2.2 else n)
def sumAt (l : List Arr) (e : ByteArray) (t : Int) : Int := sumGo e t l 0
theorem sum_drop {e : ByteArray} {t n : Int} {l : List Arr} {k : Nat} (h : k < l.length) : sumGo e t (l.drop k) n = sumGo e t (l.drop (k + 1)) (bif okAt e t (l.getD k dA) then n + (l.getD k dA).2.2 else n) := by
 rw [drop_cons (d := dA) h]; rfl
abbrev annSum (T : TypeId) (a b i : Tmp) (l : List Arr) (e : ByteArray) (t : Int) : Ann := { X := Nat × Int, σ := fun p => ⟨1, [(1, .one (.str e)), (2, .one (.int .i64 t)), (7, .one (.int .i64 p.2)), (a, .one (.sl 0)), (b, .one (.int .i64 l.length)), (i, .one (.int .i64 p.1))], [(0, .imm T sArr l)]⟩, inv := fun p => p.1 ≤ l.length ∧ (-(80000000000000 * (p.1 : Int)) ≤ p.2 ∧ p.2 ≤ 80000000000000 * p.1) ∧ sumAt l e t = sumGo e t (l.drop p.1) p.2, mu := fun p => l.length - p.1 }
def cSumA (T : TypeId) : Con := { args := [.val false (.list T sArr), aS, aI], ress := [I], owns := [], pre := fun (l, _) => [l.length ≤ 100000, arrB l], spec := fun (l, e, t, _) => (sumAt l e t, ()) }
theorem vc96 : ∀ (l : List Arr) (e : ByteArray) (t : Int), wpF Tryz.prog G87 (ann0 (annSum (107 : TypeId) (10 : Tmp) (11 : Tmp) (12 : Tmp) l e t)) Tryz.f96 (cSumA (107 : TypeId)) (l, e, t, ()) = (List.length l ≤ (100000 : Nat) → arrB l → ∃ (x : Nat × Int), (e = e ∧ t = t ∧ (0 : Int) = x.snd ∧ (↑(List.length l) : Int) = (↑(List.length l) : Int) ∧ (0 : Int) = (↑x.fst : Int) ∧ l = l) ∧ (x.fst ≤ List.length l ∧ (-((80000000000000 : Int) * (↑x.fst : Int)) ≤ x.snd ∧ x.snd ≤ (80000000000000 : Int) * (↑x.fst : Int)) ∧ sumAt l e t = sumGo e t (List.drop x.fst l) x.snd) ∧ ∀ (x : Nat × Int), x.fst ≤ List.length l ∧ (-((80000000000000 : Int) * (↑x.fst : Int)) ≤ x.snd ∧ x.snd ≤ (80000000000000 : Int) * (↑x.fst : Int)) ∧ sumAt l e t = sumGo e t (List.drop x.fst l) x.snd → (decide ((↑x.fst : Int) < (↑(List.length l) : Int)) = true → (((0 : Int) ≤ (↑x.fst : Int) ∧ (↑x.fst : Int) < (↑(List.length l) : Int)) ∧ (0 : Int) ≤ (↑x.fst : Int) ∧ (↑x.fst : Int) < (↑(List.length l) : Int)) ∧ ((bif ByteArray.toList (List.getD l x.fst ((0 : Int), ByteArray.mk (Array.mk []), (0 : Int))).snd.fst == ByteArray.toList e then decide ((List.getD l x.fst ((0 : Int), ByteArray.mk (Array.mk []), (0 : Int))).fst ≤ t) else false) = true → ((-9223372036854775808 : Int) ≤ x.snd + (List.getD l x.fst ((0 : Int), ByteArray.mk (Array.mk []), (0 : Int))).snd.snd ∧ x.snd + (List.getD l x.fst ((0 : Int), ByteArray.mk (Array.mk []), (0 : Int))).snd.snd ≤ (9223372036854775807 : Int)) ∧ ((-9223372036854775808 : Int) ≤ (↑x.fst : Int) + (1 : Int) ∧ (↑x.fst : Int) + (1 : Int) ≤ (9223372036854775807 : Int)) ∧ ∃ (y : Nat × Int), (e = e ∧ t = t ∧ x.snd + (List.getD l x.fst ((0 : Int), ByteArray.mk (Array.mk []), (0 : Int))).snd.snd = y.snd ∧ (↑(List.length l) : Int) = (↑(List.length l) : Int) ∧ (↑x.fst : Int) + (1 : Int) = (↑y.fst : Int) ∧ l = l) ∧ (y.fst ≤ List.length l ∧ (-((80000000000000 : Int) * (↑y.fst : Int)) ≤ y.snd ∧ y.snd ≤ (80000000000000 : Int) * (↑y.fst : Int)) ∧ sumAt l e t = sumGo e t (List.drop y.fst l) y.snd) ∧ List.length l - y.fst < List.length l - x.fst) ∧ ((bif ByteArray.toList (List.getD l x.fst ((0 : Int), ByteArray.mk (Array.mk []), (0 : Int))).snd.fst == ByteArray.toList e then decide ((List.getD l x.fst ((0 : Int), ByteArray.mk (Array.mk []), (0 : Int))).fst ≤ t) else false) = false → ((-9223372036854775808 : Int) ≤ (↑x.fst : Int) + (1 : Int) ∧ (↑x.fst : Int) + (1 : Int) ≤ (9223372036854775807 : Int)) ∧ ∃ (y : Nat × Int), (e = e ∧ t = t ∧ x.snd = y.snd ∧ (↑(List.length l) : Int) = (↑(List.length l) : Int) ∧ (↑x.fst : Int) + (1 : Int) = (↑y.fst : Int) ∧ l = l) ∧ (y.fst ≤ List.length l ∧ (-((80000000000000 : Int) * (↑y.fst : Int)) ≤ y.snd ∧ y.snd ≤ (80000000000000 : Int) * (↑y.fst : Int)) ∧ sumAt l e t = sumGo e t (List.drop y.fst l) y.snd) ∧ List.length l - y.fst < List.length l - x.fst)) ∧ (decide ((↑x.fst : Int) < (↑(List.length l) : Int)) = false → x.snd = sumAt l e t)) := by
 intros
 kernel_rfl
theorem wp96 (l : List Arr) (e : ByteArray) (t : Int) : wpF Tryz.prog G87 (ann0 (annSum 107 10 11 12 l e t)) Tryz.f96 (cSumA 107) (l, e, t, ()) := by
 refine (vc96 l e t).mpr ?_
 intro h1 h2
 refine ⟨((0 : Nat), (0 : Int)), ⟨rfl, rfl, rfl, rfl, rfl, rfl⟩, ⟨Nat.zero_le _, ⟨by decide, by decide⟩, rfl⟩, fun p hp => ?_⟩
 obtain ⟨k, n⟩ := p
 obtain ⟨i1, i2, i3⟩ := hp
 replace i1 : k ≤ l.length := i1
 replace i2 : -(80000000000000 * (k : Int)) ≤ n ∧ n ≤ 80000000000000 * k := i2
 replace i3 : sumAt l e t = sumGo e t (l.drop k) n := i3
 refine ⟨fun h => ?_, fun h => ?_⟩
 ·have hlt : k < l.length := by
   have h : (k : Int) < l.length := of_decide_eq_true h
   omega
  have hd := sum_drop (e := e) (t := t) (n := n) hlt
  have hb := h2 _ (getD_mem (d := dA) hlt)
  have kk : 0 ≤ (k : Int) ∧ (k : Int) < l.length := by omega
  rw [hd] at i3
  refine ⟨⟨kk, kk⟩, fun q => ?_, fun q => ?_⟩
  ·have q : okAt e t (l.getD k dA) = true := q
   rw [q] at i3
   have b1 : -9223372036854775808 ≤ n + (l.getD k dA).2.2 ∧ n + (l.getD k dA).2.2 ≤ 9223372036854775807 := by omega
   have b2 : -(80000000000000 * ((k + 1 : Nat) : Int)) ≤ n + (l.getD k dA).2.2 ∧ n + (l.getD k dA).2.2 ≤ 80000000000000 * ((k + 1 : Nat) : Int) := by omega
   exact ⟨b1, by show -9223372036854775808 ≤ (k : Int) + 1 ∧ (k : Int) + 1 ≤ 9223372036854775807; omega, (k + 1, n + (l.getD k dA).2.2), ⟨rfl, rfl, rfl, rfl, by simp, rfl⟩, ⟨hlt, b2, i3⟩, by show l.length - (k + 1) < l.length - k; omega⟩
  ·have q : okAt e t (l.getD k dA) = false := q
   rw [q] at i3
   have b2 : -(80000000000000 * ((k + 1 : Nat) : Int)) ≤ n ∧ n ≤ 80000000000000 * ((k + 1 : Nat) : Int) := by omega
   exact ⟨by show -9223372036854775808 ≤ (k : Int) + 1 ∧ (k : Int) + 1 ≤ 9223372036854775807; omega, (k + 1, n), ⟨rfl, rfl, rfl, rfl, by simp, rfl⟩, ⟨hlt, b2, i3⟩, by show l.length - (k + 1) < l.length - k; omega⟩
 ·have hge : ¬ k < l.length := by
   have h : ¬ (k : Int) < l.length := of_decide_eq_false h
   omega
  rw [i3, List.drop_of_length_le (by omega)]
  rfl
theorem ok96 [Sx.Dr] : Ok Tryz.prog 96 (cSumA 107) := ok_of_wp mixed g87 (by kernel_rfl) (by kernel_rfl) (fun xx => ann0 (annSum 107 10 11 12 xx.1 xx.2.1 xx.2.2.1)) fun xx => wp96 xx.1 xx.2.1 xx.2.2.1
abbrev G88 : Gam := (96, (cSumA 107)) :: G87
theorem g88 [Sx.Dr] : GamOk Tryz.prog G88 := .cons ok96 g87
abbrev annSumR (l : List Arr) (e : ByteArray) (t : Int) : Ann := { X := Nat × Int, σ := fun p => ⟨1, [(0, .one (.sl 0)), (1, .one (.str e)), (2, .one (.int .i64 t)), (7, .one (.int .i64 p.2)), (8, .one (.int .i64 p.1))], [(0, .imm 130 sArr l)]⟩, inv := fun p => p.1 ≤ l.length ∧ (-(80000000000000 * (p.1 : Int)) ≤ p.2 ∧ p.2 ≤ 80000000000000 * p.1) ∧ sumAt l e t = sumGo e t (l.drop p.1) p.2, mu := fun p => l.length - p.1 }
def vc100_0 (l : List Arr) (e : ByteArray) (t : Int) := ((0 : Int), ByteArray.mk (Array.mk []), (0 : Int))
theorem vc100 : ∀ (l : List Arr) (e : ByteArray) (t : Int), wpF Tryz.prog G88 (ann0 (annSumR l e t)) Tryz.f100 (cSumA (130 : TypeId)) (l, e, t, ()) = (List.length l ≤ (100000 : Nat) → arrB l → ∃ (x : Nat × Int), (e = e ∧ t = t ∧ (0 : Int) = x.snd ∧ (0 : Int) = (↑x.fst : Int) ∧ l = l) ∧ (x.fst ≤ List.length l ∧ (-((80000000000000 : Int) * (↑x.fst : Int)) ≤ x.snd ∧ x.snd ≤ (80000000000000 : Int) * (↑x.fst : Int)) ∧ sumAt l e t = sumGo e t (List.drop x.fst l) x.snd) ∧ ∀ (x : Nat × Int), x.fst ≤ List.length l ∧ (-((80000000000000 : Int) * (↑x.fst : Int)) ≤ x.snd ∧ x.snd ≤ (80000000000000 : Int) * (↑x.fst : Int)) ∧ sumAt l e t = sumGo e t (List.drop x.fst l) x.snd → (decide ((↑x.fst : Int) < (↑(List.length l) : Int)) = true → (((0 : Int) ≤ (↑x.fst : Int) ∧ (↑x.fst : Int) < (↑(List.length l) : Int)) ∧ ((0 : Int) ≤ (↑x.fst : Int) ∧ (↑x.fst : Int) < (↑(List.length l) : Int)) ∧ ((ByteArray.toList (List.getD l x.fst (vc100_0 l e t)).snd.fst == ByteArray.toList e) = true → (0 : Int) ≤ (↑x.fst : Int) ∧ (↑x.fst : Int) < (↑(List.length l) : Int)) ∧ ((ByteArray.toList (List.getD l x.fst (vc100_0 l e t)).snd.fst == ByteArray.toList e) = true → (0 : Int) ≤ (↑x.fst : Int) ∧ (↑x.fst : Int) < (↑(List.length l) : Int))) ∧ ((bif ByteArray.toList (List.getD l x.fst (vc100_0 l e t)).snd.fst == ByteArray.toList e then decide ((List.getD l x.fst (vc100_0 l e t)).fst ≤ t) else false) = true → (((0 : Int) ≤ (↑x.fst : Int) ∧ (↑x.fst : Int) < (↑(List.length l) : Int)) ∧ ((0 : Int) ≤ (↑x.fst : Int) ∧ (↑x.fst : Int) < (↑(List.length l) : Int)) ∧ (-9223372036854775808 : Int) ≤ x.snd + (List.getD l x.fst (vc100_0 l e t)).snd.snd ∧ x.snd + (List.getD l x.fst (vc100_0 l e t)).snd.snd ≤ (9223372036854775807 : Int)) ∧ ((-9223372036854775808 : Int) ≤ (↑x.fst : Int) + (1 : Int) ∧ (↑x.fst : Int) + (1 : Int) ≤ (9223372036854775807 : Int)) ∧ ∃ (y : Nat × Int), (e = e ∧ t = t ∧ x.snd + (List.getD l x.fst (vc100_0 l e t)).snd.snd = y.snd ∧ (↑x.fst : Int) + (1 : Int) = (↑y.fst : Int) ∧ l = l) ∧ (y.fst ≤ List.length l ∧ (-((80000000000000 : Int) * (↑y.fst : Int)) ≤ y.snd ∧ y.snd ≤ (80000000000000 : Int) * (↑y.fst : Int)) ∧ sumAt l e t = sumGo e t (List.drop y.fst l) y.snd) ∧ List.length l - y.fst < List.length l - x.fst) ∧ ((bif ByteArray.toList (List.getD l x.fst (vc100_0 l e t)).snd.fst == ByteArray.toList e then decide ((List.getD l x.fst (vc100_0 l e t)).fst ≤ t) else false) = false → ((-9223372036854775808 : Int) ≤ (↑x.fst : Int) + (1 : Int) ∧ (↑x.fst : Int) + (1 : Int) ≤ (9223372036854775807 : Int)) ∧ ∃ (y : Nat × Int), (e = e ∧ t = t ∧ x.snd = y.snd ∧ (↑x.fst : Int) + (1 : Int) = (↑y.fst : Int) ∧ l = l) ∧ (y.fst ≤ List.length l ∧ (-((80000000000000 : Int) * (↑y.fst : Int)) ≤ y.snd ∧ y.snd ≤ (80000000000000 : Int) * (↑y.fst : Int)) ∧ sumAt l e t = sumGo e t (List.drop y.fst l) y.snd) ∧ List.length l - y.fst < List.length l - x.fst)) ∧ (decide ((↑x.fst : Int) < (↑(List.length l) : Int)) = false → x.snd = sumAt l e t)) := by
 intros
 kernel_rfl
theorem wp100 (l : List Arr) (e : ByteArray) (t : Int) : wpF Tryz.prog G88 (ann0 (annSumR l e t)) Tryz.f100 (cSumA 130) (l, e, t, ()) := by
 refine (vc100 l e t).mpr ?_
 delta vc100_0
 intro h1 h2
 refine ⟨((0 : Nat), (0 : Int)), ⟨rfl, rfl, rfl, rfl, rfl⟩, ⟨Nat.zero_le _, ⟨by decide, by decide⟩, rfl⟩, fun p hp => ?_⟩
 obtain ⟨k, n⟩ := p
 obtain ⟨i1, i2, i3⟩ := hp
 replace i1 : k ≤ l.length := i1
 replace i2 : -(80000000000000 * (k : Int)) ≤ n ∧ n ≤ 80000000000000 * k := i2
 replace i3 : sumAt l e t = sumGo e t (l.drop k) n := i3
 refine ⟨fun h => ?_, fun h => ?_⟩
 ·have hlt : k < l.length := by
   have h : (k : Int) < l.length := of_decide_eq_true h
   omega
  have hd := sum_drop (e := e) (t := t) (n := n) hlt
  have hb := h2 _ (getD_mem (d := dA) hlt)
  have kk : 0 ≤ (k : Int) ∧ (k : Int) < l.length := by omega
  rw [hd] at i3
  refine ⟨⟨kk, kk, fun _ => kk, fun _ => kk⟩, fun q => ?_, fun q => ?_⟩
  ·have q : okAt e t (l.getD k dA) = true := q
   rw [q] at i3
   have b1 : -9223372036854775808 ≤ n + (l.getD k dA).2.2 ∧ n + (l.getD k dA).2.2 ≤ 9223372036854775807 := by omega
   have b2 : -(80000000000000 * ((k + 1 : Nat) : Int)) ≤ n + (l.getD k dA).2.2 ∧ n + (l.getD k dA).2.2 ≤ 80000000000000 * ((k + 1 : Nat) : Int) := by omega
   exact ⟨⟨kk, kk, b1⟩, by show -9223372036854775808 ≤ (k : Int) + 1 ∧ (k : Int) + 1 ≤ 9223372036854775807; omega, (k + 1, n + (l.getD k dA).2.2), ⟨rfl, rfl, rfl, by simp, rfl⟩, ⟨hlt, b2, i3⟩, by show l.length - (k + 1) < l.length - k; omega⟩
  ·have q : okAt e t (l.getD k dA) = false := q
   rw [q] at i3
   have b2 : -(80000000000000 * ((k + 1 : Nat) : Int)) ≤ n ∧ n ≤ 80000000000000 * ((k + 1 : Nat) : Int) := by omega
   exact ⟨by show -9223372036854775808 ≤ (k : Int) + 1 ∧ (k : Int) + 1 ≤ 9223372036854775807; omega, (k + 1, n), ⟨rfl, rfl, rfl, by simp, rfl⟩, ⟨hlt, b2, i3⟩, by show l.length - (k + 1) < l.length - k; omega⟩
 ·have hge : ¬ k < l.length := by
   have h : ¬ (k : Int) < l.length := of_decide_eq_false h
   omega
  rw [i3, List.drop_of_length_le (by omega)]
  rfl
theorem ok100 [Sx.Dr] : Ok Tryz.prog 100 (cSumA 130) := ok_of_wp mixed g88 (by kernel_rfl) (by kernel_rfl) (fun xx => ann0 (annSumR xx.1 xx.2.1 xx.2.2.1)) fun xx => wp100 xx.1 xx.2.1 xx.2.2.1
abbrev G89 : Gam := (100, (cSumA 130)) :: G88
theorem g89 [Sx.Dr] : GamOk Tryz.prog G89 := .cons ok100 g88
set_option maxHeartbeats 20000000
def okO (l : List Arr) (e : ByteArray) (lim t : Int) : Bool := decide (max (sumAt l e t) (0 - sumAt l e t) < lim)
def openGo (l : List Arr) (e : ByteArray) (lim : Int) : Nat → Int → Option Int
 | 0, _ => none
 | n + 1, t => bif okO l e lim t then some t else openGo l e lim n (t + 1)
def openS (l : List Arr) (e : ByteArray) (t lim w : Int) : Option Int := openGo l e lim (w + 1).toNat t
theorem sumGo_bd {e : ByteArray} {t : Int} : ∀ {l : List Arr} {n : Int}, arrB l → n - 80000000000000 * l.length ≤ sumGo e t l n ∧ sumGo e t l n ≤ n + 80000000000000 * l.length
 | [], n, _ => by simp [sumGo]
 | a :: r, n, h => by
  have ha := h a (by simp)
  have ih := sumGo_bd (e := e) (t := t) (l := r) (n := bif okAt e t a then n + a.2.2 else n) fun x hx => h x (by simp [hx])
  simp only [sumGo, List.length_cons]
  cases hq : okAt e t a
  ·rw [hq] at ih; simp only [cond_false] at ih ⊢; omega
  ·rw [hq] at ih; simp only [cond_true] at ih ⊢; omega
theorem sumAt_bd {l : List Arr} {e : ByteArray} {t : Int} (h : arrB l) (hl : l.length ≤ 100000) : -9223372036854775808 ≤ 0 - sumAt l e t ∧ 0 - sumAt l e t ≤ 9223372036854775807 := by
 have := sumGo_bd (e := e) (t := t) (l := l) (n := 0) h
 unfold sumAt; omega
theorem open_step (l : List Arr) (e : ByteArray) (lim t : Int) {n : Nat} (h : 0 < n) : openGo l e lim n t = bif okO l e lim t then some t else openGo l e lim (n - 1) (t + 1) := by
 cases n with
 | zero => omega
 | succ m => rfl
def cOpens : Con := { args := [.val false (.list 107 sArr), aS, aI, aI, aI], ress := [I, Bo], owns := [], pre := fun (l, _, t, _, w, _) => [l.length ≤ 100000, arrB l, -1000000000 ≤ t ∧ t ≤ 2000000000, 0 ≤ w ∧ w ≤ 100000], spec := fun (l, e, t, lim, w, _) => ((openS l e t lim w).getD 0, (openS l e t lim w).isSome, ()) }
abbrev annOp (l : List Arr) (e : ByteArray) (t lim w : Int) : Ann := { X := Nat, σ := fun k => ⟨1, [(0, .one (.sl 0)), (1, .one (.str e)), (2, .one (.int .i64 t)), (3, .one (.int .i64 lim)), (12, .one (.int .i64 0)), (13, .one (.bool false)), (17, .one (.int .i64 (w + 1))), (18, .one (.int .i64 k))], [(0, .imm 107 sArr l)]⟩, inv := fun k => (k : Int) ≤ w + 1 ∧ openS l e t lim w = openGo l e lim ((w + 1).toNat - k) (t + k), mu := fun k => (w + 1).toNat - k }
theorem vc112 : ∀ (l : List Arr) (e : ByteArray) (t lim w : Int), wpF Tryz.prog G89 (ann0 (annOp l e t lim w)) Tryz.f112 cOpens (l, e, t, lim, w, ()) = (List.length l ≤ (100000 : Nat) → arrB l → (-1000000000 : Int) ≤ t ∧ t ≤ (2000000000 : Int) → (0 : Int) ≤ w ∧ w ≤ (100000 : Int) → ((-9223372036854775808 : Int) ≤ w + (1 : Int) ∧ w + (1 : Int) ≤ (9223372036854775807 : Int)) ∧ ∃ (x : Nat), (e = e ∧ t = t ∧ lim = lim ∧ (0 : Int) = (0 : Int) ∧ false = false ∧ w + (1 : Int) = w + (1 : Int) ∧ (0 : Int) = (↑x : Int) ∧ l = l) ∧ ((↑x : Int) ≤ w + (1 : Int) ∧ openS l e t lim w = openGo l e lim (Int.toNat (w + (1 : Int)) - x) (t + (↑x : Int))) ∧ ∀ (x : Nat), (↑x : Int) ≤ w + (1 : Int) ∧ openS l e t lim w = openGo l e lim (Int.toNat (w + (1 : Int)) - x) (t + (↑x : Int)) → (decide ((↑x : Int) < w + (1 : Int)) = true → (((-9223372036854775808 : Int) ≤ t + (↑x : Int) ∧ t + (↑x : Int) ≤ (9223372036854775807 : Int)) ∧ List.length l ≤ (100000 : Nat) ∧ arrB l) ∧ ((-9223372036854775808 : Int) ≤ (0 : Int) - sumAt l e (t + (↑x : Int)) ∧ (0 : Int) - sumAt l e (t + (↑x : Int)) ≤ (9223372036854775807 : Int)) ∧ (decide (max (sumAt l e (t + (↑x : Int))) ((0 : Int) - sumAt l e (t + (↑x : Int))) < lim) = true → ((-9223372036854775808 : Int) ≤ t + (↑x : Int) ∧ t + (↑x : Int) ≤ (9223372036854775807 : Int)) ∧ t + (↑x : Int) = Option.getD (openS l e t lim w) (0 : Int) ∧ true = Option.isSome (openS l e t lim w)) ∧ (decide (max (sumAt l e (t + (↑x : Int))) ((0 : Int) - sumAt l e (t + (↑x : Int))) < lim) = false → ((-9223372036854775808 : Int) ≤ (↑x : Int) + (1 : Int) ∧ (↑x : Int) + (1 : Int) ≤ (9223372036854775807 : Int)) ∧ ∃ (y : Nat), (e = e ∧ t = t ∧ lim = lim ∧ (0 : Int) = (0 : Int) ∧ false = false ∧ w + (1 : Int) = w + (1 : Int) ∧ (↑x : Int) + (1 : Int) = (↑y : Int) ∧ l = l) ∧ ((↑y : Int) ≤ w + (1 : Int) ∧ openS l e t lim w = openGo l e lim (Int.toNat (w + (1 : Int)) - y) (t + (↑y : Int))) ∧ Int.toNat (w + (1 : Int)) - y < Int.toNat (w + (1 : Int)) - x)) ∧ (decide ((↑x : Int) < w + (1 : Int)) = false → (0 : Int) = Option.getD (openS l e t lim w) (0 : Int) ∧ false = Option.isSome (openS l e t lim w))) := by
 intros
 kernel_rfl
theorem wp112 (l : List Arr) (e : ByteArray) (t lim w : Int) : wpF Tryz.prog G89 (ann0 (annOp l e t lim w)) Tryz.f112 cOpens (l, e, t, lim, w, ()) := by
 refine (vc112 l e t lim w).mpr ?_
 intro h1 h2 h3 h4
 refine ⟨by omega, (0 : Nat), ⟨rfl, rfl, rfl, rfl, rfl, rfl, rfl, rfl⟩, ⟨by show (0 : Int) ≤ w + 1; omega, by unfold openS; rw [Nat.sub_zero]; congr 1; show t = t + ((0 : Nat) : Int); omega⟩, fun (k : Nat) hk => ⟨fun q => ?_, fun q => ?_⟩⟩
 ·have q := of_decide_eq_true q
  have st := open_step l e lim (t + k) (n := (w + 1).toNat - k) (by omega)
  have hb := sumAt_bd (e := e) (t := t + k) h2 h1
  refine ⟨⟨by omega, h1, h2⟩, hb, fun c => ?_, fun c => ?_⟩
  ·have c : okO l e lim (t + k) = true := c
   rw [c] at st
   rw [hk.2, st]
   exact ⟨by omega, rfl, rfl⟩
  ·have c : okO l e lim (t + k) = false := c
   rw [c] at st
   refine ⟨by omega, (k + 1 : Nat), ⟨rfl, rfl, rfl, rfl, rfl, rfl, by simp, rfl⟩, ⟨by omega, ?_⟩, by omega⟩
   rw [hk.2, st]
   show openGo l e lim ((w + 1).toNat - k - 1) (t + k + 1) = _
   rw [show (w + 1).toNat - k - 1 = (w + 1).toNat - (k + 1) by omega, show t + (k : Int) + 1 = t + ((k + 1 : Nat) : Int) by omega]
 ·have q := of_decide_eq_false q
  rw [hk.2, show (w + 1).toNat - k = 0 by omega]
  exact ⟨rfl, rfl⟩
theorem ok112 [Sx.Dr] : Ok Tryz.prog 112 cOpens := ok_of_wp mixed g89 (by kernel_rfl) (by kernel_rfl) (fun xx => ann0 (annOp xx.1 xx.2.1 xx.2.2.1 xx.2.2.2.1 xx.2.2.2.2.1)) fun xx => wp112 xx.1 xx.2.1 xx.2.2.1 xx.2.2.2.1 xx.2.2.2.2.1
abbrev G90 : Gam := (112, cOpens) :: G89
theorem g90 [Sx.Dr] : GamOk Tryz.prog G90 := .cons ok112 g89
set_option maxHeartbeats 20000000
def opnE (l : List Arr) (e : ByteArray) (t lim w : Int) : Int := firstS [arrE l, endS e, withinS t 0 999999999, thrS lim, withinS w 0 1000]
def opnF (l : List Arr) (e : ByteArray) (t lim w : Int) : Int := if opnE l e t lim w = 0 then (openS l e t lim w).getD 0 else 0
def opnEE (l : List Arr) (e : ByteArray) (t lim w : Int) : Int := if opnE l e t lim w = 0 then (bif (openS l e t lim w).isSome then 0 else 7) else opnE l e t lim w
def cOpening : Con := { args := [.val false (.list 107 sArr), aS, aI, aI, aI], ress := [I, I], owns := [], pre := fun (l, _) => [l.length ≤ 1000000], spec := fun (l, e, t, lim, w, _) => (opnF l e t lim w, opnEE l e t lim w, ()) }
theorem vc41 : ∀ (l : List Arr) (e : ByteArray) (t lim w : Int), wpF Tryz.prog G90 (na ()) Tryz.f41 cOpening (l, e, t, lim, w, ()) = (List.length l ≤ (1000000 : Nat) → (List.length l ≤ (1000000 : Nat) ∧ (5 : Nat) ≤ (1000000 : Nat)) ∧ ((firstS [arrE l, endS e, withinS t (0 : Int) (999999999 : Int), thrS lim, withinS w (0 : Int) (1000 : Int)] != (0 : Int)) = true → (0 : Int) = opnF l e t lim w ∧ firstS [arrE l, endS e, withinS t (0 : Int) (999999999 : Int), thrS lim, withinS w (0 : Int) (1000 : Int)] = opnEE l e t lim w) ∧ ((firstS [arrE l, endS e, withinS t (0 : Int) (999999999 : Int), thrS lim, withinS w (0 : Int) (1000 : Int)] != (0 : Int)) = false → (List.length l ≤ (100000 : Nat) ∧ arrB l ∧ ((-1000000000 : Int) ≤ t ∧ t ≤ (2000000000 : Int)) ∧ (0 : Int) ≤ w ∧ w ≤ (100000 : Int)) ∧ Option.getD (openS l e t lim w) (0 : Int) = opnF l e t lim w ∧ (bif !Option.isSome (openS l e t lim w) then (7 : Int) else (0 : Int)) = opnEE l e t lim w)) := by
 intros
 kernel_rfl
theorem wp41 (l : List Arr) (e : ByteArray) (t lim w : Int) : wpF Tryz.prog G90 (na ()) Tryz.f41 cOpening (l, e, t, lim, w, ()) := by
 refine (vc41 l e t lim w).mpr ?_
 intro h1
 refine ⟨⟨h1, by omega⟩, fun h => ?_, fun h => ?_⟩
 ·have h : ¬ opnE l e t lim w = 0 := bne_iff_ne.1 h
  unfold opnF opnEE; rw [if_neg h, if_neg h]; exact ⟨rfl, rfl⟩
 ·have h : opnE l e t lim w = 0 := bne_eq_false_iff_eq.1 h
  have hz := firstS_zero (show firstS [arrE l, endS e, withinS t 0 999999999, thrS lim, withinS w 0 1000] = 0 from h)
  simp only [List.mem_cons, List.not_mem_nil, or_false, forall_eq_or_imp, forall_eq] at hz
  obtain ⟨a1, a2, a3, a4, a5⟩ := hz
  have b3 := within_zero.1 a3
  have b5 := within_zero.1 a5
  have bA := arrE_bd a1
  unfold opnF opnEE; rw [if_pos h, if_pos h]
  refine ⟨⟨by omega, bA.1, by omega, by omega⟩, rfl, ?_⟩
  cases (openS l e t lim w).isSome <;> rfl
theorem ok41 [Sx.Dr] : Ok Tryz.prog 41 cOpening := ok_of_wp mixed g90 (by kernel_rfl) (by kernel_rfl) na fun xx => wp41 xx.1 xx.2.1 xx.2.2.1 xx.2.2.2.1 xx.2.2.2.2.1
abbrev G91 : Gam := (41, cOpening) :: G90
theorem g91 [Sx.Dr] : GamOk Tryz.prog G91 := .cons ok41 g90
def cOpensR : Con := { args := [.val false (.list 130 sArr), aS, aI, aI, aI], ress := [I, I], owns := [], pre := fun (l, _, t, _, w, _) => [l.length ≤ 100000, arrB l, -1000000000 ≤ t ∧ t ≤ 2000000000, 0 ≤ w ∧ w ≤ 100000], spec := fun (l, e, t, lim, w, _) => ((openS l e t lim w).getD 0, bif (openS l e t lim w).isSome then 0 else 7, ()) }
abbrev annOpR (l : List Arr) (e : ByteArray) (t lim w : Int) : Ann := { X := Nat, σ := fun k => ⟨1, [(0, .one (.sl 0)), (1, .one (.str e)), (2, .one (.int .i64 t)), (3, .one (.int .i64 lim)), (4, .one (.int .i64 w)), (12, .one (.int .i64 (t + k)))], [(0, .imm 130 sArr l)]⟩, inv := fun k => (k : Int) ≤ w + 1 ∧ openS l e t lim w = openGo l e lim ((w + 1).toNat - k) (t + k), mu := fun k => (w + 1).toNat - k }
theorem vc47 : ∀ (l : List Arr) (e : ByteArray) (t lim w : Int), wpF Tryz.prog G91 (ann0 (annOpR l e t lim w)) Tryz.f47 cOpensR (l, e, t, lim, w, ()) = (List.length l ≤ (100000 : Nat) → arrB l → (-1000000000 : Int) ≤ t ∧ t ≤ (2000000000 : Int) → (0 : Int) ≤ w ∧ w ≤ (100000 : Int) → ∃ (x : Nat), (e = e ∧ t = t ∧ lim = lim ∧ w = w ∧ t = t + (↑x : Int) ∧ l = l) ∧ ((↑x : Int) ≤ w + (1 : Int) ∧ openS l e t lim w = openGo l e lim (Int.toNat (w + (1 : Int)) - x) (t + (↑x : Int))) ∧ ∀ (x : Nat), (↑x : Int) ≤ w + (1 : Int) ∧ openS l e t lim w = openGo l e lim (Int.toNat (w + (1 : Int)) - x) (t + (↑x : Int)) → ((-9223372036854775808 : Int) ≤ t + w ∧ t + w ≤ (9223372036854775807 : Int)) ∧ (decide (t + (↑x : Int) ≤ t + w) = true → (List.length l ≤ (100000 : Nat) ∧ arrB l) ∧ ((-9223372036854775808 : Int) ≤ (0 : Int) - sumAt l e (t + (↑x : Int)) ∧ (0 : Int) - sumAt l e (t + (↑x : Int)) ≤ (9223372036854775807 : Int)) ∧ (decide (max (sumAt l e (t + (↑x : Int))) ((0 : Int) - sumAt l e (t + (↑x : Int))) < lim) = true → t + (↑x : Int) = Option.getD (openS l e t lim w) (0 : Int) ∧ (0 : Int) = bif Option.isSome (openS l e t lim w) then (0 : Int) else (7 : Int)) ∧ (decide (max (sumAt l e (t + (↑x : Int))) ((0 : Int) - sumAt l e (t + (↑x : Int))) < lim) = false → ((-9223372036854775808 : Int) ≤ t + (↑x : Int) + (1 : Int) ∧ t + (↑x : Int) + (1 : Int) ≤ (9223372036854775807 : Int)) ∧ ∃ (y : Nat), (e = e ∧ t = t ∧ lim = lim ∧ w = w ∧ t + (↑x : Int) + (1 : Int) = t + (↑y : Int) ∧ l = l) ∧ ((↑y : Int) ≤ w + (1 : Int) ∧ openS l e t lim w = openGo l e lim (Int.toNat (w + (1 : Int)) - y) (t + (↑y : Int))) ∧ Int.toNat (w + (1 : Int)) - y < Int.toNat (w + (1 : Int)) - x)) ∧ (decide (t + (↑x : Int) ≤ t + w) = false → (0 : Int) = Option.getD (openS l e t lim w) (0 : Int) ∧ (7 : Int) = bif Option.isSome (openS l e t lim w) then (0 : Int) else (7 : Int))) := by
 intros
 kernel_rfl
theorem wp47 (l : List Arr) (e : ByteArray) (t lim w : Int) : wpF Tryz.prog G91 (ann0 (annOpR l e t lim w)) Tryz.f47 cOpensR (l, e, t, lim, w, ()) := by
 refine (vc47 l e t lim w).mpr ?_
 intro h1 h2 h3 h4
 refine ⟨(0 : Nat), ⟨rfl, rfl, rfl, rfl, by omega, rfl⟩, ⟨by show (0 : Int) ≤ w + 1; omega, by unfold openS; rw [Nat.sub_zero]; congr 1; show t = t + ((0 : Nat) : Int); omega⟩, fun (k : Nat) hk => ?_⟩
 refine ⟨by omega, fun q => ?_, fun q => ?_⟩
 ·have q := of_decide_eq_true q
  have st := open_step l e lim (t + k) (n := (w + 1).toNat - k) (by omega)
  have hb := sumAt_bd (e := e) (t := t + k) h2 h1
  refine ⟨⟨h1, h2⟩, hb, fun c => ?_, fun c => ?_⟩
  ·have c : okO l e lim (t + k) = true := c
   rw [c] at st
   rw [hk.2, st]
   exact ⟨rfl, rfl⟩
  ·have c : okO l e lim (t + k) = false := c
   rw [c] at st
   refine ⟨by omega, (k + 1 : Nat), ⟨rfl, rfl, rfl, rfl, by omega, rfl⟩, ⟨by omega, ?_⟩, by omega⟩
   rw [hk.2, st]
   show openGo l e lim ((w + 1).toNat - k - 1) (t + k + 1) = _
   rw [show (w + 1).toNat - k - 1 = (w + 1).toNat - (k + 1) by omega, show t + (k : Int) + 1 = t + ((k + 1 : Nat) : Int) by omega]
 ·have q := of_decide_eq_false q
  rw [hk.2, show (w + 1).toNat - k = 0 by omega]
  exact ⟨rfl, rfl⟩
theorem ok47 [Sx.Dr] : Ok Tryz.prog 47 cOpensR := ok_of_wp mixed g91 (by kernel_rfl) (by kernel_rfl) (fun xx => ann0 (annOpR xx.1 xx.2.1 xx.2.2.1 xx.2.2.2.1 xx.2.2.2.2.1)) fun xx => wp47 xx.1 xx.2.1 xx.2.2.1 xx.2.2.2.1 xx.2.2.2.2.1
abbrev G92 : Gam := (47, cOpensR) :: G91
theorem g92 [Sx.Dr] : GamOk Tryz.prog G92 := .cons ok47 g91
set_option maxHeartbeats 20000000
abbrev Pln : Type := (Int × Int) × Int × Int × Int
abbrev sPl : Sch := .prod sPt (.prod sI (.prod sI sI))
abbrev aPl : AK := .val true sPl
def plnS (p : Pln) : Int := firstS [thrS p.1.1, thrS p.1.2, withinS p.2.1 0 100000, thrS p.2.2.1, withinS p.2.2.2 0 1000]
def cPln : Con := { args := [aPl], ress := [I], owns := [], pre := fun _ => [], spec := fun (p, _) => (plnS p, ()) }
theorem vc113 : ∀ (p : Pln), wpF Tryz.prog G92 (na ()) Tryz.f113 cPln (p, ()) = ((5 : Nat) ≤ (1000000 : Nat) ∧ firstS [thrS p.fst.fst, thrS p.fst.snd, withinS p.snd.fst (0 : Int) (100000 : Int), thrS p.snd.snd.fst, withinS p.snd.snd.snd (0 : Int) (1000 : Int)] = plnS p) := by
 intros
 kernel_rfl
theorem wp113 (p : Pln) : wpF Tryz.prog G92 (na ()) Tryz.f113 cPln (p, ()) := by
 refine (vc113 p).mpr ?_
 exact ⟨by omega, rfl⟩
theorem ok113 [Sx.Dr] : Ok Tryz.prog 113 cPln := ok_of_wp mixed g92 (by kernel_rfl) (by kernel_rfl) na fun xx => wp113 xx.1
abbrev G93 : Gam := (113, cPln) :: G92
theorem g93 [Sx.Dr] : GamOk Tryz.prog G93 := .cons ok113 g92
theorem vc50 : ∀ (p : Pln), wpF Tryz.prog G93 (na ()) Tryz.f50 cPln (p, ()) = ((5 : Nat) ≤ (1000000 : Nat) ∧ firstS [thrS p.fst.fst, thrS p.fst.snd, withinS p.snd.fst (0 : Int) (100000 : Int), thrS p.snd.snd.fst, withinS p.snd.snd.snd (0 : Int) (1000 : Int)] = plnS p) := by
 intros
 kernel_rfl
theorem wp50 (p : Pln) : wpF Tryz.prog G93 (na ()) Tryz.f50 cPln (p, ()) := by
 refine (vc50 p).mpr ?_
 exact ⟨by omega, rfl⟩
theorem ok50 [Sx.Dr] : Ok Tryz.prog 50 cPln := ok_of_wp mixed g93 (by kernel_rfl) (by kernel_rfl) na fun xx => wp50 xx.1
abbrev G94 : Gam := (50, cPln) :: G93
theorem g94 [Sx.Dr] : GamOk Tryz.prog G94 := .cons ok50 g93
end Go.Proofs.YtcledkhhecdppaaGreatDoor
