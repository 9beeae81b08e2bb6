/- The law walked: part of the proof. -/
import Derived.Test.YtcledkhhecdppaaGreatDoorFC
set_option linter.unusedSimpArgs false
set_option linter.unusedVariables false
set_option maxRecDepth 20000
namespace Go.Proofs.YtcledkhhecdppaaGreatDoor
open Go.Sx
set_option maxHeartbeats 20000000
def cClears : Con := { args := [aCR, aF, aPl], ress := [Bo], owns := [], pre := fun _ => [], spec := fun _ => (true, ()) }
def vc6_0 (c : Cab) (f : Flt) (p : Pln) := ((p.fst.fst, p.fst.snd), p.snd.fst, p.snd.snd.fst, p.snd.snd.snd)
def vc6_1 (c : Cab) (f : Flt) (p : Pln) := (c.1, c.snd.1, c.snd.snd.fst, c.snd.snd.snd)
def vc6_2 (c : Cab) (f : Flt) (p : Pln) := (f.fst, f.snd.fst, f.snd.snd.fst, f.snd.snd.snd)
theorem vc6 : ∀ (c : Cab) (f : Flt) (p : Pln), wpF Tryz.prog G128 (na ()) Tryz.f6 cClears (c, f, p, ()) = (((bif false then true else !shortS (vc6_1 c f p)) = true → true = true) ∧ ((bif false then true else !shortS (vc6_1 c f p)) = false → (List.length c.1 ≤ (1000000 : Nat) ∧ List.length c.snd.1 ≤ (1000000 : Nat) ∧ List.length c.1 ≤ (1000000 : Nat) ∧ List.length c.snd.1 ≤ (1000000 : Nat)) ∧ (List.length c.1 ≤ (1000000 : Nat) ∧ List.length c.snd.1 ≤ (1000000 : Nat) ∧ (2 : Nat) ≤ (1000000 : Nat)) ∧ ((firstS [fltS (vc6_1 c f p) (vc6_2 c f p), plnS (vc6_0 c f p)] == (0 : Int)) = true → clrE (vc6_1 c f p) (vc6_2 c f p) (vc6_0 c f p) = (0 : Int) ∧ (bif (clrF (vc6_1 c f p) (vc6_2 c f p) (vc6_0 c f p)).fst == (clrG (arrS (vc6_1 c f p) (vc6_2 c f p) p.snd.snd.snd) (vc6_0 c f p)).fst && ((clrF (vc6_1 c f p) (vc6_2 c f p) (vc6_0 c f p)).snd == (clrG (arrS (vc6_1 c f p) (vc6_2 c f p) p.snd.snd.snd) (vc6_0 c f p)).snd && true) then clrEE (vc6_1 c f p) (vc6_2 c f p) (vc6_0 c f p) == clrGE (arrS (vc6_1 c f p) (vc6_2 c f p) p.snd.snd.snd) (vc6_0 c f p) else false) = true) ∧ ((firstS [fltS (vc6_1 c f p) (vc6_2 c f p), plnS (vc6_0 c f p)] == (0 : Int)) = false → (bif (clrF (vc6_1 c f p) (vc6_2 c f p) (vc6_0 c f p)).fst == (0 : Int) && ((clrF (vc6_1 c f p) (vc6_2 c f p) (vc6_0 c f p)).snd == (0 : Int) && true) then clrEE (vc6_1 c f p) (vc6_2 c f p) (vc6_0 c f p) == firstS [fltS (vc6_1 c f p) (vc6_2 c f p), plnS (vc6_0 c f p)] else false) = true))) := by
 intros
 kernel_rfl
theorem wp6 (c : Cab) (f : Flt) (p : Pln) : wpF Tryz.prog G128 (na ()) Tryz.f6 cClears (c, f, p, ()) := by
 refine (vc6 c f p).mpr ?_
 delta vc6_0 vc6_1 vc6_2
 obtain ⟨s, j, e0, e1⟩ := c
 obtain ⟨f0, f1, f2, f3⟩ := f
 obtain ⟨⟨p0, p1⟩, p2, p3, p4⟩ := p
 dsimp only
 refine ⟨fun _ => rfl, fun h => ?_⟩
 have hs := short_len h
 have h1 : s.length ≤ 1000000 := Nat.le_trans hs.1 (by decide)
 have h2 : j.length ≤ 1000000 := Nat.le_trans hs.2 (by decide)
 refine ⟨⟨h1, h2, h1, h2⟩, ⟨h1, h2, by decide⟩, ?_⟩
 generalize ((s, j, e0, e1) : Cab) = c
 generalize ((f0, f1, f2, f3) : Flt) = f
 have ep : (((p0, p1), p2, p3, p4) : Pln).2.2.2 = p4 := rfl
 generalize (((p0, p1), p2, p3, p4) : Pln) = p at ep ⊢
 subst ep
 refine ⟨fun q => ?_, fun q => ?_⟩
 ·have q : clrE c f p = 0 := eq_of_beq q
  have eF : clrF c f p = clrG (arrS c f p.2.2.2) p := by unfold clrF; rw [if_pos q]
  have eE : clrEE c f p = clrGE (arrS c f p.2.2.2) p := by unfold clrEE; rw [if_pos q]
  refine ⟨q, ?_⟩
  simp [eF, eE]
 ·have q' : ¬ clrE c f p = 0 := beq_eq_false_iff_ne.1 q
  have eF : clrF c f p = (0, 0) := by unfold clrF; rw [if_neg q']
  have eE : clrEE c f p = firstS [fltS c f, plnS p] := by unfold clrEE; rw [if_neg q']; rfl
  simp [eF, eE]
theorem ok6 : Ok Tryz.prog 6 cClears := ok_of_wp mixed g128 (by kernel_rfl) (by kernel_rfl) na fun xx => wp6 xx.1 xx.2.1 xx.2.2.1
abbrev G129 : Gam := (6, cClears) :: G128
theorem g129 : GamOk Tryz.prog G129 := .cons ok6 g128
end Go.Proofs.YtcledkhhecdppaaGreatDoor
