/- The closing of a law, common part: the listed tables. -/
import Derived.Test.YthchfepplbcdeaaGreatDoorFB
import Derived.Test.YthchfepplbcdeaaGreatDoorRows
import Derived.Test.YthchfepplbcdeaaGreatDoorCards
import Derived.Test.YthchfepplbcdeaaGreatDoorTie
import Derived.SevenTiedAt
import Derived.Stop.Joined
import Derived.Lay
import Derived.Lib.LaidU8
namespace Go.Proofs.YthchfepplbcdeaaGreatDoor
open Go Go.Sx Go.RowKit Go.ChangeShapes
theorem lawOwn : ownKnob Tryz.prog.godebug = none := by kernel_rfl
theorem lawOut : laidOutB Tryz.prog = true := by kernel_rfl
abbrev laid7 : List (String × DataW Unit) := [("math/bits.deBruijn32tab", Rows.laid_math_bits_deBruijn32tab), ("math/bits.deBruijn64tab", Rows.laid_math_bits_deBruijn64tab), ("internal/strconv.uint64pow10", Rows.laid_internal_strconv_uint64pow10), ("bipole/permit.kinds", Rows.laid_bipole_permit_kinds)]
theorem pow10_data : Rows.laid_internal_strconv_uint64pow10 = (Lib.tabData .u64 Lib.pow10Tab : DataW Unit) := by kernel_rfl
theorem str_of_trod {H : Type} {enc : TypeId × Value → H} {w : World} {base : Nat} {sp : Nat → Bool} {held : Bool} {fuel : Nat} {c : Value} {y : DataW H × List MemPlace}
    (h : DataW.trod enc Tryz.prog w base sp held fuel 9 [c] = some y) : ∃ s : ByteArray, c = .string s ∧ y = (.lit (.string s.data.toList), []) := by
  obtain ⟨s, hc, hy, _⟩ := DataW.trod_string Tryz.underlying9 h
  simp only [List.cons.injEq, and_true] at hc
  exact ⟨s, hc, hy⟩
theorem ba_of_list {s : ByteArray} {l : List UInt8} (h : s.data.toList = l) : s = ⟨l.toArray⟩ := by rw [← h, Lib.mk_data]
set_option maxRecDepth 100000 in
theorem kinds_of {W : World} (h : Lib.VarReads Tryz.prog W "bipole/permit.kinds" Rows.laid_bipole_permit_kinds) : W.var? Tryz.prog "bipole/permit.kinds" = some #[.string ⟨#[98, 114, 101, 97, 107, 101, 114]⟩, .string ⟨#[105, 115, 111, 108, 97, 116, 111, 114]⟩, .string ⟨#[101, 97, 114, 116, 104]⟩] := by
  obtain ⟨g, t, cs, fuel, p, hg, ht, hvar, hd⟩ := h
  have a1 : Tryz.prog.globalNamed "bipole/permit.kinds" = some (0 : Nat) := by kernel_rfl
  obtain rfl := Option.some.inj (a1.symm.trans hg)
  have a2 : (Tryz.prog.globals[(0 : Nat)]?).map (·.type) = some (231 : Nat) := by kernel_rfl
  obtain rfl := Option.some.inj (a2.symm.trans ht)
  have c1 : Tryz.prog.cellsOf 231 = 3 := by kernel_rfl
  have c2 : Tryz.prog.cellsOf 9 = 1 := by kernel_rfl
  rw [hvar]
  congr 1
  obtain ⟨l⟩ := cs
  cases fuel with
  | zero => simp [DataW.trod] at hd
  | succ fuel =>
    simp only [DataW.trod, Tryz.underlying231, c1, c2] at hd
    split at hd
    · rename_i hl
      obtain ⟨x0, x1, x2, rfl⟩ : ∃ x0 x1 x2, l = [x0, x1, x2] := by
        match l, hl with
        | [a, b, c], _ => exact ⟨a, b, c, rfl⟩
      have e : List.range 3 = [0, 1, 2] := rfl
      rw [e] at hd
      simp only [Option.map_eq_some_iff, List.mapM_cons, List.mapM_nil, Option.bind_eq_bind, Option.bind_eq_some_iff, Option.pure_def, Option.some.injEq] at hd
      obtain ⟨xs, ⟨y0, h0, _, ⟨y1, h1, _, ⟨y2, h2, _, rfl, rfl⟩, rfl⟩, rfl⟩, hx⟩ := hd
      obtain ⟨n0, rfl, rfl⟩ := str_of_trod h0
      obtain ⟨n1, rfl, rfl⟩ := str_of_trod h1
      obtain ⟨n2, rfl, rfl⟩ := str_of_trod h2
      simp [Rows.laid_bipole_permit_kinds] at hx
      obtain ⟨⟨e0, e1, e2⟩, _⟩ := hx
      rw [ba_of_list e0, ba_of_list e1, ba_of_list e2]
    · cases hd
theorem kin_of {W : World} (h : W.var? Tryz.prog "bipole/permit.kinds" = some #[.string ⟨#[98, 114, 101, 97, 107, 101, 114]⟩, .string ⟨#[105, 115, 111, 108, 97, 116, 111, 114]⟩, .string ⟨#[101, 97, 114, 116, 104]⟩]) : Kin W := by
  intro off s hs
  have hc := World.var?_cell (g := (0 : Nat)) (by kernel_rfl) h off
  match off, hs with
  | 0, hs => cases hs; exact hc
  | 1, hs => cases hs; exact hc
  | 2, hs => cases hs; exact hc
theorem lawTab {W : World} (h : laidMetH Tryz.prog laid7 W) (_ : W.ShapedOpen Tryz.prog) : Tab Tryz.prog W := by
  rw [MakeChecks.laidMetH_plain _ _ _ (by kernel_rfl)] at h
  refine ⟨?_, kin_of (kinds_of (Lib.laidMet.reads h (n := "bipole/permit.kinds") (d := Rows.laid_bipole_permit_kinds) (by simp)))⟩
  obtain ⟨g2, t2, cs2, f2, p2, hg2, ht2, hv2, hd2⟩ := Lib.laidMet.reads h (n := "internal/strconv.uint64pow10") (d := Rows.laid_internal_strconv_uint64pow10) (by simp)
  rw [pow10_data] at hd2
  have a1 : Tryz.prog.globalNamed "internal/strconv.uint64pow10" = some (2 : Nat) := by kernel_rfl
  obtain rfl := Option.some.inj (a1.symm.trans hg2)
  have a2 : (Tryz.prog.globals[(2 : Nat)]?).map (·.type) = some (271 : Nat) := by kernel_rfl
  obtain rfl := Option.some.inj (a2.symm.trans ht2)
  show W.var? Tryz.prog "internal/strconv.uint64pow10" = _
  have hc := Lib.cells_of_tab (n := 20) (e := (180 : Nat)) (k := .u64) (zs := Lib.pow10Tab) (by kernel_rfl) (by kernel_rfl) (by kernel_rfl) (by kernel_rfl) hd2
  simp only [hv2, ← hc]
theorem handed_shaped {H : Type} {enc : TypeId × Value → H} {a : Assume} {C : Checked} {os : Os} {f : FuncId} {fn : Func} {s : ChangeSpec} {conds : List PathCond} {apart fresh handsOn again : Bool} {X : World → Array Value → Prop}
    (hX : ∀ (w w' : World) (args : Array Value), w.heap = w'.heap → X w args → X w' args)
    (own : ownKnob C.prog.godebug = none) (started : os.Started) (noInit : C.prog.inits.idxOf? f = none) (hfn : C.prog.funcs[f]? = some fn)
    (witness : ∃ (w : World) (tape : Tape) (i : Input), w.os = os ∧ (w.forCall tape i).Shaped C.prog ∧ i.vars = [] ∧ Input.okWide C.prog (w.forCall tape i) .any w.heap.size f i ∧
      ((s.pre enc C.prog fn conds apart (w.forCall tape i).memory i.args ∧ X (w.forCall tape i).memory i.args) ∧ sizedMet enc C.prog fn (OpenSpec.ofChange s) apart (w.forCall tape i).memory i.args) ∧ a.holds C.prog (lone (Frame.enter C.prog f i.args .normal) [] (w.forCall tape i)))
    (contract : ∀ (W : World) (base : Nat) (args : Array Value) (ds gs : List (DataW H)) (before : List MemPlace), W.ShapedOpen C.prog →
      (∀ (j : Nat) t v, fn.params[j]? = some t → args[j]? = some v → Value.okWide C.prog W .any base t v) →
      DataW.Whole enc C.prog fn.params.toList s.vars apart W args.toList ds gs before → X W args →
      Calls C.prog f args W fun e W' => ∃ v, e = .returned v ∧ s.post enc C.prog fn apart fresh handsOn again W args v W') :
    ReturnsInHanded a C os f .any (fun w args => (s.pre enc C.prog fn conds apart w args ∧ X w args) ∧ sizedMet enc C.prog fn (OpenSpec.ofChange s) apart w args) (s.post enc C.prog fn apart fresh handsOn again) := by
  refine returnsInHanded_of_calls own started noInit witness ?_
  intro w tape i _ hsh _ hok hpre _
  obtain ⟨_, _, _, fn', hfn', _, _, _, _, hval⟩ := hok
  have e : fn' = fn := Option.some.inj (hfn'.symm.trans hfn)
  subst e
  obtain ⟨⟨⟨ds, gs, before, hw, hc⟩, hx⟩, hz⟩ := hpre
  have hw' := DataW.Whole.of_heap (w' := w.forCall tape i) (by rfl) hw
  refine (contract (w.forCall tape i) w.heap.size i.args ds gs before hsh hval hw' (hX _ _ _ (by rfl) hx)).mono fun e W' ⟨v, he, hp⟩ => ?_
  subst he
  exact ChangeSpec.post_blind hp
theorem law3 : mapsRowed Tryz.prog = true := by kernel_rfl
theorem law7 : (Tryz.prog.stops == []) = true := by kernel_rfl
theorem law9 : (Tryz.prog.stopKnobs == []) = true := by kernel_rfl
theorem law23b : Tryz.prog.stopsHeard = true := by kernel_rfl
theorem law24 : Tryz.prog.mayEnter = true := by kernel_rfl
end Go.Proofs.YthchfepplbcdeaaGreatDoor
