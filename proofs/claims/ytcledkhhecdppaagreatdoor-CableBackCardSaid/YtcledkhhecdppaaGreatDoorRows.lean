/-
  NARROWER THAN 'FOR EVERY INPUT', by the rows' own cells (each row's printed sentence says how): CableWaves: laid · CableLocates: laid · CableOpens: laid · CableClears: laid · CableHolds: laid · CableSplits: laid · CableZones: laid · CableFirsts: laid · CableShapes: laid · CableMirrors: laid · CableTrips: laid · CableTexts: laid · CableBack: laid.
  DERIVED. THE GIVEN ROWS OF THIS SEAT. 13 by the template 'for every input the law returns true; each argument reads behind the call as it read before'; 0 by the template 'total and deterministic' (their statements: YtcledkhhecdppaaGreatDoorTotals.lean).
  GIVEN WITH THE SEED: the statements are not yours to turn. If you find one false, say at which input.
  Laid BY PROGRAM, IN A SANDBOX (cutbox-rows.mjs): the forced cells as the released guide's own fill.sh prints them over the translation 2827e16d08ecfd02… (all of the seat's roots in one cut). By AI agents, Wed Nov 11 2026. No macro, syntax, notation, axiom, sorry.
-/
import Derived.Test.YtcledkhhecdppaaGreatDoorChecked
import GoSem.PinnedTables
import GoSem.Claim
import GoSem.ClaimJoined
import GoSem.ClaimMapViews
import Derived.JoinedTies
import Derived.KernelRfl
namespace Go.Proofs.YtcledkhhecdppaaGreatDoor
/- THE CELL 'sum', in the pinned program and in every row, IS THE sha256 OF THE DUMP (.gsa) THAT YtcledkhhecdppaaGreatDoorProg.lean LOADS. Nothing in Lean hashes anything: it is a label: what it is worth is what the hold of that sum in a sandbox is worth. -/
noncomputable def Tryz.pinned : Pinned := { name := "ytcledkhhecdppaagreatdoor", sum := "2827e16d08ecfd02d38faa592f30fba5335b4f15df7c722549d181a4f01cfb37", checked := Tryz.checked }
namespace Rows
def none {H : Type} : Left H := { results := [], args := [] }

/- WHAT THE LISTED PACKAGE-LEVEL VARIABLES READ AS WHEN THE CALL BEGINS. Each datum BY PROGRAM (the guide's laid-datum.mjs) off the statement by which the dump's own 'gosem.cut.vars' lays the variable. In a bare row this is a premise. The card (YtcledkhhecdppaaGreatDoorCards.lean) ties it to the program's text. -/
def laid_math_bits_deBruijn32tab {H : Type} : DataW H := .agg [.lit (.int .u8 0), .lit (.int .u8 1), .lit (.int .u8 28), .lit (.int .u8 2), .lit (.int .u8 29), .lit (.int .u8 14), .lit (.int .u8 24), .lit (.int .u8 3), .lit (.int .u8 30), .lit (.int .u8 22), .lit (.int .u8 20), .lit (.int .u8 15), .lit (.int .u8 25), .lit (.int .u8 17), .lit (.int .u8 4), .lit (.int .u8 8), .lit (.int .u8 31), .lit (.int .u8 27), .lit (.int .u8 13), .lit (.int .u8 23), .lit (.int .u8 21), .lit (.int .u8 19), .lit (.int .u8 16), .lit (.int .u8 7), .lit (.int .u8 26), .lit (.int .u8 12), .lit (.int .u8 18), .lit (.int .u8 6), .lit (.int .u8 11), .lit (.int .u8 5), .lit (.int .u8 10), .lit (.int .u8 9)]
def laid_math_bits_deBruijn64tab {H : Type} : DataW H := .agg [.lit (.int .u8 0), .lit (.int .u8 1), .lit (.int .u8 56), .lit (.int .u8 2), .lit (.int .u8 57), .lit (.int .u8 49), .lit (.int .u8 28), .lit (.int .u8 3), .lit (.int .u8 61), .lit (.int .u8 58), .lit (.int .u8 42), .lit (.int .u8 50), .lit (.int .u8 38), .lit (.int .u8 29), .lit (.int .u8 17), .lit (.int .u8 4), .lit (.int .u8 62), .lit (.int .u8 47), .lit (.int .u8 59), .lit (.int .u8 36), .lit (.int .u8 45), .lit (.int .u8 43), .lit (.int .u8 51), .lit (.int .u8 22), .lit (.int .u8 53), .lit (.int .u8 39), .lit (.int .u8 33), .lit (.int .u8 30), .lit (.int .u8 24), .lit (.int .u8 18), .lit (.int .u8 12), .lit (.int .u8 5), .lit (.int .u8 63), .lit (.int .u8 55), .lit (.int .u8 48), .lit (.int .u8 27), .lit (.int .u8 60), .lit (.int .u8 41), .lit (.int .u8 37), .lit (.int .u8 16), .lit (.int .u8 46), .lit (.int .u8 35), .lit (.int .u8 44), .lit (.int .u8 21), .lit (.int .u8 52), .lit (.int .u8 32), .lit (.int .u8 23), .lit (.int .u8 11), .lit (.int .u8 54), .lit (.int .u8 26), .lit (.int .u8 40), .lit (.int .u8 15), .lit (.int .u8 34), .lit (.int .u8 20), .lit (.int .u8 31), .lit (.int .u8 10), .lit (.int .u8 25), .lit (.int .u8 14), .lit (.int .u8 19), .lit (.int .u8 9), .lit (.int .u8 13), .lit (.int .u8 8), .lit (.int .u8 7), .lit (.int .u8 6)]
def laid_internal_strconv_uint64pow10 {H : Type} : DataW H := .agg [.lit (.int .u64 1), .lit (.int .u64 10), .lit (.int .u64 100), .lit (.int .u64 1000), .lit (.int .u64 10000), .lit (.int .u64 100000), .lit (.int .u64 1000000), .lit (.int .u64 10000000), .lit (.int .u64 100000000), .lit (.int .u64 1000000000), .lit (.int .u64 10000000000), .lit (.int .u64 100000000000), .lit (.int .u64 1000000000000), .lit (.int .u64 10000000000000), .lit (.int .u64 100000000000000), .lit (.int .u64 1000000000000000), .lit (.int .u64 10000000000000000), .lit (.int .u64 100000000000000000), .lit (.int .u64 1000000000000000000), .lit (.int .u64 10000000000000000000)]
def laid_unicode_utf8_acceptRanges {H : Type} : DataW H := .agg [.agg [.lit (.int .u8 128), .lit (.int .u8 191)], .agg [.lit (.int .u8 160), .lit (.int .u8 191)], .agg [.lit (.int .u8 128), .lit (.int .u8 159)], .agg [.lit (.int .u8 144), .lit (.int .u8 191)], .agg [.lit (.int .u8 128), .lit (.int .u8 143)], .agg [.lit (.int .u8 0), .lit (.int .u8 0)], .agg [.lit (.int .u8 0), .lit (.int .u8 0)], .agg [.lit (.int .u8 0), .lit (.int .u8 0)], .agg [.lit (.int .u8 0), .lit (.int .u8 0)], .agg [.lit (.int .u8 0), .lit (.int .u8 0)], .agg [.lit (.int .u8 0), .lit (.int .u8 0)], .agg [.lit (.int .u8 0), .lit (.int .u8 0)], .agg [.lit (.int .u8 0), .lit (.int .u8 0)], .agg [.lit (.int .u8 0), .lit (.int .u8 0)], .agg [.lit (.int .u8 0), .lit (.int .u8 0)], .agg [.lit (.int .u8 0), .lit (.int .u8 0)]]
def laid_strconv_ErrRange {H : Type} : DataW H := .iface "*errors.errorString" (.ptr (.agg [.lit (.string [118, 97, 108, 117, 101, 32, 111, 117, 116, 32, 111, 102, 32, 114, 97, 110, 103, 101])]))
def laid_strconv_ErrSyntax {H : Type} : DataW H := .iface "*errors.errorString" (.ptr (.agg [.lit (.string [105, 110, 118, 97, 108, 105, 100, 32, 115, 121, 110, 116, 97, 120])]))
/-- One of Go's own tables, pinned by name: the form's constant. -/
def laid_unicode_utf8_first : DataW Unit := Go.Pinned.utf8First

/-- 'bipolelaw06.CableWaves': WHATEVER THE INPUT: true; the input reads as it did. -/
def cableWavesSpec : ChangeSpec := { name := "cableWaves", fn := fun _ => fun
  | [d1, d2, d3] => { results := [.lit (.bool true)], args := [d1, d2, d3] }
  | _ => none }
def cableWavesRow : OpenClaim := { program := "ytcledkhhecdppaagreatdoor", sum := "2827e16d08ecfd02d38faa592f30fba5335b4f15df7c722549d181a4f01cfb37", func := "bipole/bipolelaw06.CableWaves", spec := "cableWaves", inPlace := ["slices.overlaps[bipole/cable.Section]", "slices.overlaps[int]", "internal/abi.NoEscape", "internal/bytealg.MakeNoZero"], unfollowed := true, recurses := true, named := ["internal/strconv.uint64pow10", "math/bits.deBruijn32tab", "math/bits.deBruijn64tab"], plainKeys := false, apart := false, laid := [("math/bits.deBruijn32tab", laid_math_bits_deBruijn32tab), ("math/bits.deBruijn64tab", laid_math_bits_deBruijn64tab), ("internal/strconv.uint64pow10", laid_internal_strconv_uint64pow10)] }
def CableWavesSaid : Prop := cableWavesRow.holds Tryz.pinned (OpenSpec.ofChange cableWavesSpec)

/-- ITS FALSE NEIGHBOUR: 'it returns false'. Refute it at one input. -/
def cableWavesWrong : ChangeSpec := { name := "cableWaves", fn := fun _ => fun
  | [d1, d2, d3] => { results := [.lit (.bool false)], args := [d1, d2, d3] }
  | _ => none }
def CableWavesWrongFalsely : Prop := cableWavesRow.holds Tryz.pinned (OpenSpec.ofChange cableWavesWrong)

/-- 'bipolelaw06.CableLocates': WHATEVER THE INPUT: true; the input reads as it did. -/
def cableLocatesSpec : ChangeSpec := { name := "cableLocates", fn := fun _ => fun
  | [d1, d2, d3] => { results := [.lit (.bool true)], args := [d1, d2, d3] }
  | _ => none }
def cableLocatesRow : OpenClaim := { program := "ytcledkhhecdppaagreatdoor", sum := "2827e16d08ecfd02d38faa592f30fba5335b4f15df7c722549d181a4f01cfb37", func := "bipole/bipolelaw06.CableLocates", spec := "cableLocates", inPlace := ["slices.overlaps[bipole/cable.Section]", "slices.overlaps[int]", "internal/abi.NoEscape", "internal/bytealg.MakeNoZero"], unfollowed := true, recurses := true, named := ["internal/strconv.uint64pow10", "math/bits.deBruijn32tab", "math/bits.deBruijn64tab"], plainKeys := false, apart := false, laid := [("math/bits.deBruijn32tab", laid_math_bits_deBruijn32tab), ("math/bits.deBruijn64tab", laid_math_bits_deBruijn64tab), ("internal/strconv.uint64pow10", laid_internal_strconv_uint64pow10)] }
def CableLocatesSaid : Prop := cableLocatesRow.holds Tryz.pinned (OpenSpec.ofChange cableLocatesSpec)

/-- ITS FALSE NEIGHBOUR: 'it returns false'. Refute it at one input. -/
def cableLocatesWrong : ChangeSpec := { name := "cableLocates", fn := fun _ => fun
  | [d1, d2, d3] => { results := [.lit (.bool false)], args := [d1, d2, d3] }
  | _ => none }
def CableLocatesWrongFalsely : Prop := cableLocatesRow.holds Tryz.pinned (OpenSpec.ofChange cableLocatesWrong)

/-- 'bipolelaw06.CableOpens': WHATEVER THE INPUT: true; the input reads as it did. -/
def cableOpensSpec : ChangeSpec := { name := "cableOpens", fn := fun _ => fun
  | [d1, d2, d3] => { results := [.lit (.bool true)], args := [d1, d2, d3] }
  | _ => none }
def cableOpensRow : OpenClaim := { program := "ytcledkhhecdppaagreatdoor", sum := "2827e16d08ecfd02d38faa592f30fba5335b4f15df7c722549d181a4f01cfb37", func := "bipole/bipolelaw06.CableOpens", spec := "cableOpens", inPlace := ["slices.overlaps[bipole/cable.Section]", "slices.overlaps[int]", "internal/abi.NoEscape", "internal/bytealg.MakeNoZero"], unfollowed := true, recurses := true, named := ["internal/strconv.uint64pow10", "math/bits.deBruijn32tab", "math/bits.deBruijn64tab"], plainKeys := false, apart := false, laid := [("math/bits.deBruijn32tab", laid_math_bits_deBruijn32tab), ("math/bits.deBruijn64tab", laid_math_bits_deBruijn64tab), ("internal/strconv.uint64pow10", laid_internal_strconv_uint64pow10)] }
def CableOpensSaid : Prop := cableOpensRow.holds Tryz.pinned (OpenSpec.ofChange cableOpensSpec)

/-- ITS FALSE NEIGHBOUR: 'it returns false'. Refute it at one input. -/
def cableOpensWrong : ChangeSpec := { name := "cableOpens", fn := fun _ => fun
  | [d1, d2, d3] => { results := [.lit (.bool false)], args := [d1, d2, d3] }
  | _ => none }
def CableOpensWrongFalsely : Prop := cableOpensRow.holds Tryz.pinned (OpenSpec.ofChange cableOpensWrong)

/-- 'bipolelaw06.CableClears': WHATEVER THE INPUT: true; the input reads as it did. -/
def cableClearsSpec : ChangeSpec := { name := "cableClears", fn := fun _ => fun
  | [d1, d2, d3] => { results := [.lit (.bool true)], args := [d1, d2, d3] }
  | _ => none }
def cableClearsRow : OpenClaim := { program := "ytcledkhhecdppaagreatdoor", sum := "2827e16d08ecfd02d38faa592f30fba5335b4f15df7c722549d181a4f01cfb37", func := "bipole/bipolelaw06.CableClears", spec := "cableClears", inPlace := ["slices.overlaps[bipole/cable.Section]", "slices.overlaps[int]", "internal/abi.NoEscape", "internal/bytealg.MakeNoZero"], unfollowed := true, recurses := true, named := ["internal/strconv.uint64pow10", "math/bits.deBruijn32tab", "math/bits.deBruijn64tab"], plainKeys := false, apart := false, laid := [("math/bits.deBruijn32tab", laid_math_bits_deBruijn32tab), ("math/bits.deBruijn64tab", laid_math_bits_deBruijn64tab), ("internal/strconv.uint64pow10", laid_internal_strconv_uint64pow10)] }
def CableClearsSaid : Prop := cableClearsRow.holds Tryz.pinned (OpenSpec.ofChange cableClearsSpec)

/-- ITS FALSE NEIGHBOUR: 'it returns false'. Refute it at one input. -/
def cableClearsWrong : ChangeSpec := { name := "cableClears", fn := fun _ => fun
  | [d1, d2, d3] => { results := [.lit (.bool false)], args := [d1, d2, d3] }
  | _ => none }
def CableClearsWrongFalsely : Prop := cableClearsRow.holds Tryz.pinned (OpenSpec.ofChange cableClearsWrong)

/-- 'bipolelaw06.CableHolds': WHATEVER THE INPUT: true; the input reads as it did. -/
def cableHoldsSpec : ChangeSpec := { name := "cableHolds", fn := fun _ => fun
  | [d1, d2, d3] => { results := [.lit (.bool true)], args := [d1, d2, d3] }
  | _ => none }
def cableHoldsRow : OpenClaim := { program := "ytcledkhhecdppaagreatdoor", sum := "2827e16d08ecfd02d38faa592f30fba5335b4f15df7c722549d181a4f01cfb37", func := "bipole/bipolelaw06.CableHolds", spec := "cableHolds", inPlace := ["slices.overlaps[bipole/cable.Section]", "slices.overlaps[int]", "internal/abi.NoEscape", "internal/bytealg.MakeNoZero"], unfollowed := true, recurses := true, named := ["internal/strconv.uint64pow10", "math/bits.deBruijn32tab", "math/bits.deBruijn64tab"], plainKeys := false, apart := false, laid := [("math/bits.deBruijn32tab", laid_math_bits_deBruijn32tab), ("math/bits.deBruijn64tab", laid_math_bits_deBruijn64tab), ("internal/strconv.uint64pow10", laid_internal_strconv_uint64pow10)] }
def CableHoldsSaid : Prop := cableHoldsRow.holds Tryz.pinned (OpenSpec.ofChange cableHoldsSpec)

/-- ITS FALSE NEIGHBOUR: 'it returns false'. Refute it at one input. -/
def cableHoldsWrong : ChangeSpec := { name := "cableHolds", fn := fun _ => fun
  | [d1, d2, d3] => { results := [.lit (.bool false)], args := [d1, d2, d3] }
  | _ => none }
def CableHoldsWrongFalsely : Prop := cableHoldsRow.holds Tryz.pinned (OpenSpec.ofChange cableHoldsWrong)

/-- 'bipolelaw06.CableSplits': WHATEVER THE INPUT: true; the input reads as it did. -/
def cableSplitsSpec : ChangeSpec := { name := "cableSplits", fn := fun _ => fun
  | [d1, d2, d3] => { results := [.lit (.bool true)], args := [d1, d2, d3] }
  | _ => none }
def cableSplitsRow : OpenClaim := { program := "ytcledkhhecdppaagreatdoor", sum := "2827e16d08ecfd02d38faa592f30fba5335b4f15df7c722549d181a4f01cfb37", func := "bipole/bipolelaw06.CableSplits", spec := "cableSplits", inPlace := ["slices.overlaps[bipole/cable.Section]", "slices.overlaps[int]", "internal/abi.NoEscape", "internal/bytealg.MakeNoZero"], unfollowed := true, recurses := true, named := ["internal/strconv.uint64pow10", "math/bits.deBruijn32tab", "math/bits.deBruijn64tab"], plainKeys := false, apart := false, laid := [("math/bits.deBruijn32tab", laid_math_bits_deBruijn32tab), ("math/bits.deBruijn64tab", laid_math_bits_deBruijn64tab), ("internal/strconv.uint64pow10", laid_internal_strconv_uint64pow10)] }
def CableSplitsSaid : Prop := cableSplitsRow.holds Tryz.pinned (OpenSpec.ofChange cableSplitsSpec)

/-- ITS FALSE NEIGHBOUR: 'it returns false'. Refute it at one input. -/
def cableSplitsWrong : ChangeSpec := { name := "cableSplits", fn := fun _ => fun
  | [d1, d2, d3] => { results := [.lit (.bool false)], args := [d1, d2, d3] }
  | _ => none }
def CableSplitsWrongFalsely : Prop := cableSplitsRow.holds Tryz.pinned (OpenSpec.ofChange cableSplitsWrong)

/-- 'bipolelaw06.CableZones': WHATEVER THE INPUT: true; the input reads as it did. -/
def cableZonesSpec : ChangeSpec := { name := "cableZones", fn := fun _ => fun
  | [d1, d2, d3] => { results := [.lit (.bool true)], args := [d1, d2, d3] }
  | _ => none }
def cableZonesRow : OpenClaim := { program := "ytcledkhhecdppaagreatdoor", sum := "2827e16d08ecfd02d38faa592f30fba5335b4f15df7c722549d181a4f01cfb37", func := "bipole/bipolelaw06.CableZones", spec := "cableZones", inPlace := ["slices.overlaps[bipole/cable.Section]", "slices.overlaps[int]", "internal/abi.NoEscape", "internal/bytealg.MakeNoZero"], unfollowed := true, recurses := true, named := ["internal/strconv.uint64pow10", "math/bits.deBruijn32tab", "math/bits.deBruijn64tab"], plainKeys := false, apart := false, laid := [("math/bits.deBruijn32tab", laid_math_bits_deBruijn32tab), ("math/bits.deBruijn64tab", laid_math_bits_deBruijn64tab), ("internal/strconv.uint64pow10", laid_internal_strconv_uint64pow10)] }
def CableZonesSaid : Prop := cableZonesRow.holds Tryz.pinned (OpenSpec.ofChange cableZonesSpec)

/-- ITS FALSE NEIGHBOUR: 'it returns false'. Refute it at one input. -/
def cableZonesWrong : ChangeSpec := { name := "cableZones", fn := fun _ => fun
  | [d1, d2, d3] => { results := [.lit (.bool false)], args := [d1, d2, d3] }
  | _ => none }
def CableZonesWrongFalsely : Prop := cableZonesRow.holds Tryz.pinned (OpenSpec.ofChange cableZonesWrong)

/-- 'bipolelaw06.CableFirsts': WHATEVER THE INPUT: true; the input reads as it did. -/
def cableFirstsSpec : ChangeSpec := { name := "cableFirsts", fn := fun _ => fun
  | [d1, d2, d3] => { results := [.lit (.bool true)], args := [d1, d2, d3] }
  | _ => none }
def cableFirstsRow : OpenClaim := { program := "ytcledkhhecdppaagreatdoor", sum := "2827e16d08ecfd02d38faa592f30fba5335b4f15df7c722549d181a4f01cfb37", func := "bipole/bipolelaw06.CableFirsts", spec := "cableFirsts", inPlace := ["slices.overlaps[bipole/cable.Section]", "slices.overlaps[int]", "internal/abi.NoEscape", "internal/bytealg.MakeNoZero"], unfollowed := true, recurses := true, named := ["internal/strconv.uint64pow10", "math/bits.deBruijn32tab", "math/bits.deBruijn64tab"], plainKeys := false, apart := false, laid := [("math/bits.deBruijn32tab", laid_math_bits_deBruijn32tab), ("math/bits.deBruijn64tab", laid_math_bits_deBruijn64tab), ("internal/strconv.uint64pow10", laid_internal_strconv_uint64pow10)] }
def CableFirstsSaid : Prop := cableFirstsRow.holds Tryz.pinned (OpenSpec.ofChange cableFirstsSpec)

/-- ITS FALSE NEIGHBOUR: 'it returns false'. Refute it at one input. -/
def cableFirstsWrong : ChangeSpec := { name := "cableFirsts", fn := fun _ => fun
  | [d1, d2, d3] => { results := [.lit (.bool false)], args := [d1, d2, d3] }
  | _ => none }
def CableFirstsWrongFalsely : Prop := cableFirstsRow.holds Tryz.pinned (OpenSpec.ofChange cableFirstsWrong)

/-- 'bipolelaw06.CableShapes': WHATEVER THE INPUT: true; the input reads as it did. -/
def cableShapesSpec : ChangeSpec := { name := "cableShapes", fn := fun _ => fun
  | [d1, d2, d3] => { results := [.lit (.bool true)], args := [d1, d2, d3] }
  | _ => none }
def cableShapesRow : OpenClaim := { program := "ytcledkhhecdppaagreatdoor", sum := "2827e16d08ecfd02d38faa592f30fba5335b4f15df7c722549d181a4f01cfb37", func := "bipole/bipolelaw06.CableShapes", spec := "cableShapes", inPlace := ["slices.overlaps[bipole/cable.Section]", "slices.overlaps[int]", "internal/abi.NoEscape", "internal/bytealg.MakeNoZero"], unfollowed := true, recurses := true, named := ["internal/strconv.uint64pow10", "math/bits.deBruijn32tab", "math/bits.deBruijn64tab"], plainKeys := false, apart := false, laid := [("math/bits.deBruijn32tab", laid_math_bits_deBruijn32tab), ("math/bits.deBruijn64tab", laid_math_bits_deBruijn64tab), ("internal/strconv.uint64pow10", laid_internal_strconv_uint64pow10)] }
def CableShapesSaid : Prop := cableShapesRow.holds Tryz.pinned (OpenSpec.ofChange cableShapesSpec)

/-- ITS FALSE NEIGHBOUR: 'it returns false'. Refute it at one input. -/
def cableShapesWrong : ChangeSpec := { name := "cableShapes", fn := fun _ => fun
  | [d1, d2, d3] => { results := [.lit (.bool false)], args := [d1, d2, d3] }
  | _ => none }
def CableShapesWrongFalsely : Prop := cableShapesRow.holds Tryz.pinned (OpenSpec.ofChange cableShapesWrong)

/-- 'bipolelaw06.CableMirrors': WHATEVER THE INPUT: true; the input reads as it did. -/
def cableMirrorsSpec : ChangeSpec := { name := "cableMirrors", fn := fun _ => fun
  | [d1, d2, d3] => { results := [.lit (.bool true)], args := [d1, d2, d3] }
  | _ => none }
def cableMirrorsRow : OpenClaim := { program := "ytcledkhhecdppaagreatdoor", sum := "2827e16d08ecfd02d38faa592f30fba5335b4f15df7c722549d181a4f01cfb37", func := "bipole/bipolelaw06.CableMirrors", spec := "cableMirrors", inPlace := ["slices.overlaps[bipole/cable.Section]", "slices.overlaps[int]", "internal/abi.NoEscape", "internal/bytealg.MakeNoZero"], unfollowed := true, recurses := true, named := ["internal/strconv.uint64pow10", "math/bits.deBruijn32tab", "math/bits.deBruijn64tab"], plainKeys := false, apart := false, laid := [("math/bits.deBruijn32tab", laid_math_bits_deBruijn32tab), ("math/bits.deBruijn64tab", laid_math_bits_deBruijn64tab), ("internal/strconv.uint64pow10", laid_internal_strconv_uint64pow10)] }
def CableMirrorsSaid : Prop := cableMirrorsRow.holds Tryz.pinned (OpenSpec.ofChange cableMirrorsSpec)

/-- ITS FALSE NEIGHBOUR: 'it returns false'. Refute it at one input. -/
def cableMirrorsWrong : ChangeSpec := { name := "cableMirrors", fn := fun _ => fun
  | [d1, d2, d3] => { results := [.lit (.bool false)], args := [d1, d2, d3] }
  | _ => none }
def CableMirrorsWrongFalsely : Prop := cableMirrorsRow.holds Tryz.pinned (OpenSpec.ofChange cableMirrorsWrong)

/-- 'bipolelaw06.CableTrips': WHATEVER THE INPUT: true; the input reads as it did. -/
def cableTripsSpec : ChangeSpec := { name := "cableTrips", fn := fun _ => fun
  | [d1, d2, d3] => { results := [.lit (.bool true)], args := [d1, d2, d3] }
  | _ => none }
def cableTripsRow : OpenClaim := { program := "ytcledkhhecdppaagreatdoor", sum := "2827e16d08ecfd02d38faa592f30fba5335b4f15df7c722549d181a4f01cfb37", func := "bipole/bipolelaw06.CableTrips", spec := "cableTrips", inPlace := ["slices.overlaps[bipole/cable.Section]", "slices.overlaps[int]", "internal/abi.NoEscape", "internal/bytealg.MakeNoZero"], unfollowed := true, recurses := true, named := ["internal/strconv.uint64pow10", "math/bits.deBruijn32tab", "math/bits.deBruijn64tab"], plainKeys := false, apart := false, laid := [("math/bits.deBruijn32tab", laid_math_bits_deBruijn32tab), ("math/bits.deBruijn64tab", laid_math_bits_deBruijn64tab), ("internal/strconv.uint64pow10", laid_internal_strconv_uint64pow10)] }
def CableTripsSaid : Prop := cableTripsRow.holds Tryz.pinned (OpenSpec.ofChange cableTripsSpec)

/-- ITS FALSE NEIGHBOUR: 'it returns false'. Refute it at one input. -/
def cableTripsWrong : ChangeSpec := { name := "cableTrips", fn := fun _ => fun
  | [d1, d2, d3] => { results := [.lit (.bool false)], args := [d1, d2, d3] }
  | _ => none }
def CableTripsWrongFalsely : Prop := cableTripsRow.holds Tryz.pinned (OpenSpec.ofChange cableTripsWrong)

/-- 'bipolelaw06.CableTexts': WHATEVER THE INPUT: true; the input reads as it did. -/
def cableTextsSpec : ChangeSpec := { name := "cableTexts", fn := fun _ => fun
  | [d1, d2] => { results := [.lit (.bool true)], args := [d1, d2] }
  | _ => none }
def cableTextsRow : OpenClaim := { program := "ytcledkhhecdppaagreatdoor", sum := "2827e16d08ecfd02d38faa592f30fba5335b4f15df7c722549d181a4f01cfb37", func := "bipole/bipolelaw06.CableTexts", spec := "cableTexts", inPlace := ["slices.overlaps[bipole/cable.Section]", "slices.overlaps[int]", "internal/abi.NoEscape", "internal/bytealg.MakeNoZero", "internal/bytealg.IndexByteString", "internal/bytealg.CountString", "internal/bytealg.IndexString"], unfollowed := true, recurses := true, named := ["internal/strconv.uint64pow10", "math/bits.deBruijn32tab", "math/bits.deBruijn64tab", "strconv.ErrSyntax", "strconv.ErrRange", "unicode/utf8.first", "unicode/utf8.acceptRanges", "internal/bytealg.MaxLen"], plainKeys := false, apart := false, laid := [("math/bits.deBruijn32tab", laid_math_bits_deBruijn32tab), ("math/bits.deBruijn64tab", laid_math_bits_deBruijn64tab), ("internal/strconv.uint64pow10", laid_internal_strconv_uint64pow10), ("unicode/utf8.acceptRanges", laid_unicode_utf8_acceptRanges), ("strconv.ErrRange", laid_strconv_ErrRange), ("strconv.ErrSyntax", laid_strconv_ErrSyntax), ("unicode/utf8.first", laid_unicode_utf8_first)] }
def CableTextsSaid : Prop := cableTextsRow.holds Tryz.pinned (OpenSpec.ofChange cableTextsSpec)

/-- ITS FALSE NEIGHBOUR: 'it returns false'. Refute it at one input. -/
def cableTextsWrong : ChangeSpec := { name := "cableTexts", fn := fun _ => fun
  | [d1, d2] => { results := [.lit (.bool false)], args := [d1, d2] }
  | _ => none }
def CableTextsWrongFalsely : Prop := cableTextsRow.holds Tryz.pinned (OpenSpec.ofChange cableTextsWrong)

/-- 'bipolelaw06.CableBack': WHATEVER THE INPUT: true; the input reads as it did. -/
def cableBackSpec : ChangeSpec := { name := "cableBack", fn := fun _ => fun
  | [d1, d2] => { results := [.lit (.bool true)], args := [d1, d2] }
  | _ => none }
def cableBackRow : OpenClaim := { program := "ytcledkhhecdppaagreatdoor", sum := "2827e16d08ecfd02d38faa592f30fba5335b4f15df7c722549d181a4f01cfb37", func := "bipole/bipolelaw06.CableBack", spec := "cableBack", inPlace := ["slices.overlaps[bipole/cable.Section]", "slices.overlaps[int]", "internal/abi.NoEscape", "internal/bytealg.MakeNoZero", "internal/bytealg.IndexByteString", "internal/bytealg.CountString", "internal/bytealg.IndexString"], unfollowed := true, recurses := true, named := ["internal/strconv.uint64pow10", "math/bits.deBruijn32tab", "math/bits.deBruijn64tab", "strconv.ErrSyntax", "strconv.ErrRange", "unicode/utf8.first", "unicode/utf8.acceptRanges", "internal/bytealg.MaxLen"], plainKeys := false, apart := false, laid := [("math/bits.deBruijn32tab", laid_math_bits_deBruijn32tab), ("math/bits.deBruijn64tab", laid_math_bits_deBruijn64tab), ("internal/strconv.uint64pow10", laid_internal_strconv_uint64pow10), ("unicode/utf8.acceptRanges", laid_unicode_utf8_acceptRanges), ("strconv.ErrRange", laid_strconv_ErrRange), ("strconv.ErrSyntax", laid_strconv_ErrSyntax), ("unicode/utf8.first", laid_unicode_utf8_first)] }
def CableBackSaid : Prop := cableBackRow.holds Tryz.pinned (OpenSpec.ofChange cableBackSpec)

/-- ITS FALSE NEIGHBOUR: 'it returns false'. Refute it at one input. -/
def cableBackWrong : ChangeSpec := { name := "cableBack", fn := fun _ => fun
  | [d1, d2] => { results := [.lit (.bool false)], args := [d1, d2] }
  | _ => none }
def CableBackWrongFalsely : Prop := cableBackRow.holds Tryz.pinned (OpenSpec.ofChange cableBackWrong)

/- THE SECOND FORM. 'bulk': how many values and letters a reading holds, each counted each time it is reached (what is shared counts as often as it is met; a slice's spare places count too). A statement '..UptoSaid' is the law's where the arguments, and the package variables that the reading takes, are together of bulk at most 1048576: NARROWER than '..Said'. Prove '..Said' where nothing that the law and all that it calls make is longer than what came in: it says more and counts as full. Else prove '..UptoSaid'. A law counts once. -/
mutual
def uptoBulk {H : Type} : DataW H → Nat
  | .lit (.string bytes) => bytes.length + 1
  | .lit _ => 1
  | .nil => 1
  | .ptr d => uptoBulk d + 1
  | .slice elems spare => uptoBulkAll elems + uptoBulkAll spare + 1
  | .agg parts => uptoBulkAll parts + 1
  | .iface _ d => uptoBulk d + 1
  | .map entries => uptoBulkEntries entries + 1
  | .held _ => 1
def uptoBulkAll {H : Type} : List (DataW H) → Nat
  | [] => 0
  | d :: r => uptoBulk d + uptoBulkAll r
def uptoBulkEntries {H : Type} : List (Lit × DataW H) → Nat
  | [] => 0
  | x :: r => uptoBulkEntry x + uptoBulkEntries r
def uptoBulkEntry {H : Type} : Lit × DataW H → Nat
  | (.string bytes, d) => bytes.length + uptoBulk d + 1
  | (_, d) => uptoBulk d + 1
 end
def uptoSmall : (H : Type) → List (DataW H) → Bool := fun _ ds => decide (uptoBulkAll ds ≤ 1048576)
def OpenSpec.upto (s : _root_.Go.ChangeSpec) : _root_.Go.OpenSpec := { _root_.Go.OpenSpec.ofChange s with cond := some uptoSmall }

/-- 'bipolelaw06.CableWaves', WHERE WHAT IT READS IS OF BULK AT MOST 1048576: true; the input reads as it did. -/
def cableWavesUptoRow : OpenClaim := { program := "ytcledkhhecdppaagreatdoor", sum := "2827e16d08ecfd02d38faa592f30fba5335b4f15df7c722549d181a4f01cfb37", func := "bipole/bipolelaw06.CableWaves", spec := "cableWaves", inPlace := ["slices.overlaps[bipole/cable.Section]", "slices.overlaps[int]", "internal/abi.NoEscape", "internal/bytealg.MakeNoZero"], unfollowed := true, recurses := true, named := ["internal/strconv.uint64pow10", "math/bits.deBruijn32tab", "math/bits.deBruijn64tab"], plainKeys := false, apart := false, laid := [("math/bits.deBruijn32tab", laid_math_bits_deBruijn32tab), ("math/bits.deBruijn64tab", laid_math_bits_deBruijn64tab), ("internal/strconv.uint64pow10", laid_internal_strconv_uint64pow10)], narrowed := true }
def CableWavesUptoSaid : Prop := cableWavesUptoRow.holds Tryz.pinned (OpenSpec.upto cableWavesSpec)

/-- 'bipolelaw06.CableLocates', WHERE WHAT IT READS IS OF BULK AT MOST 1048576: true; the input reads as it did. -/
def cableLocatesUptoRow : OpenClaim := { program := "ytcledkhhecdppaagreatdoor", sum := "2827e16d08ecfd02d38faa592f30fba5335b4f15df7c722549d181a4f01cfb37", func := "bipole/bipolelaw06.CableLocates", spec := "cableLocates", inPlace := ["slices.overlaps[bipole/cable.Section]", "slices.overlaps[int]", "internal/abi.NoEscape", "internal/bytealg.MakeNoZero"], unfollowed := true, recurses := true, named := ["internal/strconv.uint64pow10", "math/bits.deBruijn32tab", "math/bits.deBruijn64tab"], plainKeys := false, apart := false, laid := [("math/bits.deBruijn32tab", laid_math_bits_deBruijn32tab), ("math/bits.deBruijn64tab", laid_math_bits_deBruijn64tab), ("internal/strconv.uint64pow10", laid_internal_strconv_uint64pow10)], narrowed := true }
def CableLocatesUptoSaid : Prop := cableLocatesUptoRow.holds Tryz.pinned (OpenSpec.upto cableLocatesSpec)

/-- 'bipolelaw06.CableOpens', WHERE WHAT IT READS IS OF BULK AT MOST 1048576: true; the input reads as it did. -/
def cableOpensUptoRow : OpenClaim := { program := "ytcledkhhecdppaagreatdoor", sum := "2827e16d08ecfd02d38faa592f30fba5335b4f15df7c722549d181a4f01cfb37", func := "bipole/bipolelaw06.CableOpens", spec := "cableOpens", inPlace := ["slices.overlaps[bipole/cable.Section]", "slices.overlaps[int]", "internal/abi.NoEscape", "internal/bytealg.MakeNoZero"], unfollowed := true, recurses := true, named := ["internal/strconv.uint64pow10", "math/bits.deBruijn32tab", "math/bits.deBruijn64tab"], plainKeys := false, apart := false, laid := [("math/bits.deBruijn32tab", laid_math_bits_deBruijn32tab), ("math/bits.deBruijn64tab", laid_math_bits_deBruijn64tab), ("internal/strconv.uint64pow10", laid_internal_strconv_uint64pow10)], narrowed := true }
def CableOpensUptoSaid : Prop := cableOpensUptoRow.holds Tryz.pinned (OpenSpec.upto cableOpensSpec)

/-- 'bipolelaw06.CableClears', WHERE WHAT IT READS IS OF BULK AT MOST 1048576: true; the input reads as it did. -/
def cableClearsUptoRow : OpenClaim := { program := "ytcledkhhecdppaagreatdoor", sum := "2827e16d08ecfd02d38faa592f30fba5335b4f15df7c722549d181a4f01cfb37", func := "bipole/bipolelaw06.CableClears", spec := "cableClears", inPlace := ["slices.overlaps[bipole/cable.Section]", "slices.overlaps[int]", "internal/abi.NoEscape", "internal/bytealg.MakeNoZero"], unfollowed := true, recurses := true, named := ["internal/strconv.uint64pow10", "math/bits.deBruijn32tab", "math/bits.deBruijn64tab"], plainKeys := false, apart := false, laid := [("math/bits.deBruijn32tab", laid_math_bits_deBruijn32tab), ("math/bits.deBruijn64tab", laid_math_bits_deBruijn64tab), ("internal/strconv.uint64pow10", laid_internal_strconv_uint64pow10)], narrowed := true }
def CableClearsUptoSaid : Prop := cableClearsUptoRow.holds Tryz.pinned (OpenSpec.upto cableClearsSpec)

/-- 'bipolelaw06.CableHolds', WHERE WHAT IT READS IS OF BULK AT MOST 1048576: true; the input reads as it did. -/
def cableHoldsUptoRow : OpenClaim := { program := "ytcledkhhecdppaagreatdoor", sum := "2827e16d08ecfd02d38faa592f30fba5335b4f15df7c722549d181a4f01cfb37", func := "bipole/bipolelaw06.CableHolds", spec := "cableHolds", inPlace := ["slices.overlaps[bipole/cable.Section]", "slices.overlaps[int]", "internal/abi.NoEscape", "internal/bytealg.MakeNoZero"], unfollowed := true, recurses := true, named := ["internal/strconv.uint64pow10", "math/bits.deBruijn32tab", "math/bits.deBruijn64tab"], plainKeys := false, apart := false, laid := [("math/bits.deBruijn32tab", laid_math_bits_deBruijn32tab), ("math/bits.deBruijn64tab", laid_math_bits_deBruijn64tab), ("internal/strconv.uint64pow10", laid_internal_strconv_uint64pow10)], narrowed := true }
def CableHoldsUptoSaid : Prop := cableHoldsUptoRow.holds Tryz.pinned (OpenSpec.upto cableHoldsSpec)

/-- 'bipolelaw06.CableSplits', WHERE WHAT IT READS IS OF BULK AT MOST 1048576: true; the input reads as it did. -/
def cableSplitsUptoRow : OpenClaim := { program := "ytcledkhhecdppaagreatdoor", sum := "2827e16d08ecfd02d38faa592f30fba5335b4f15df7c722549d181a4f01cfb37", func := "bipole/bipolelaw06.CableSplits", spec := "cableSplits", inPlace := ["slices.overlaps[bipole/cable.Section]", "slices.overlaps[int]", "internal/abi.NoEscape", "internal/bytealg.MakeNoZero"], unfollowed := true, recurses := true, named := ["internal/strconv.uint64pow10", "math/bits.deBruijn32tab", "math/bits.deBruijn64tab"], plainKeys := false, apart := false, laid := [("math/bits.deBruijn32tab", laid_math_bits_deBruijn32tab), ("math/bits.deBruijn64tab", laid_math_bits_deBruijn64tab), ("internal/strconv.uint64pow10", laid_internal_strconv_uint64pow10)], narrowed := true }
def CableSplitsUptoSaid : Prop := cableSplitsUptoRow.holds Tryz.pinned (OpenSpec.upto cableSplitsSpec)

/-- 'bipolelaw06.CableZones', WHERE WHAT IT READS IS OF BULK AT MOST 1048576: true; the input reads as it did. -/
def cableZonesUptoRow : OpenClaim := { program := "ytcledkhhecdppaagreatdoor", sum := "2827e16d08ecfd02d38faa592f30fba5335b4f15df7c722549d181a4f01cfb37", func := "bipole/bipolelaw06.CableZones", spec := "cableZones", inPlace := ["slices.overlaps[bipole/cable.Section]", "slices.overlaps[int]", "internal/abi.NoEscape", "internal/bytealg.MakeNoZero"], unfollowed := true, recurses := true, named := ["internal/strconv.uint64pow10", "math/bits.deBruijn32tab", "math/bits.deBruijn64tab"], plainKeys := false, apart := false, laid := [("math/bits.deBruijn32tab", laid_math_bits_deBruijn32tab), ("math/bits.deBruijn64tab", laid_math_bits_deBruijn64tab), ("internal/strconv.uint64pow10", laid_internal_strconv_uint64pow10)], narrowed := true }
def CableZonesUptoSaid : Prop := cableZonesUptoRow.holds Tryz.pinned (OpenSpec.upto cableZonesSpec)

/-- 'bipolelaw06.CableFirsts', WHERE WHAT IT READS IS OF BULK AT MOST 1048576: true; the input reads as it did. -/
def cableFirstsUptoRow : OpenClaim := { program := "ytcledkhhecdppaagreatdoor", sum := "2827e16d08ecfd02d38faa592f30fba5335b4f15df7c722549d181a4f01cfb37", func := "bipole/bipolelaw06.CableFirsts", spec := "cableFirsts", inPlace := ["slices.overlaps[bipole/cable.Section]", "slices.overlaps[int]", "internal/abi.NoEscape", "internal/bytealg.MakeNoZero"], unfollowed := true, recurses := true, named := ["internal/strconv.uint64pow10", "math/bits.deBruijn32tab", "math/bits.deBruijn64tab"], plainKeys := false, apart := false, laid := [("math/bits.deBruijn32tab", laid_math_bits_deBruijn32tab), ("math/bits.deBruijn64tab", laid_math_bits_deBruijn64tab), ("internal/strconv.uint64pow10", laid_internal_strconv_uint64pow10)], narrowed := true }
def CableFirstsUptoSaid : Prop := cableFirstsUptoRow.holds Tryz.pinned (OpenSpec.upto cableFirstsSpec)

/-- 'bipolelaw06.CableShapes', WHERE WHAT IT READS IS OF BULK AT MOST 1048576: true; the input reads as it did. -/
def cableShapesUptoRow : OpenClaim := { program := "ytcledkhhecdppaagreatdoor", sum := "2827e16d08ecfd02d38faa592f30fba5335b4f15df7c722549d181a4f01cfb37", func := "bipole/bipolelaw06.CableShapes", spec := "cableShapes", inPlace := ["slices.overlaps[bipole/cable.Section]", "slices.overlaps[int]", "internal/abi.NoEscape", "internal/bytealg.MakeNoZero"], unfollowed := true, recurses := true, named := ["internal/strconv.uint64pow10", "math/bits.deBruijn32tab", "math/bits.deBruijn64tab"], plainKeys := false, apart := false, laid := [("math/bits.deBruijn32tab", laid_math_bits_deBruijn32tab), ("math/bits.deBruijn64tab", laid_math_bits_deBruijn64tab), ("internal/strconv.uint64pow10", laid_internal_strconv_uint64pow10)], narrowed := true }
def CableShapesUptoSaid : Prop := cableShapesUptoRow.holds Tryz.pinned (OpenSpec.upto cableShapesSpec)

/-- 'bipolelaw06.CableMirrors', WHERE WHAT IT READS IS OF BULK AT MOST 1048576: true; the input reads as it did. -/
def cableMirrorsUptoRow : OpenClaim := { program := "ytcledkhhecdppaagreatdoor", sum := "2827e16d08ecfd02d38faa592f30fba5335b4f15df7c722549d181a4f01cfb37", func := "bipole/bipolelaw06.CableMirrors", spec := "cableMirrors", inPlace := ["slices.overlaps[bipole/cable.Section]", "slices.overlaps[int]", "internal/abi.NoEscape", "internal/bytealg.MakeNoZero"], unfollowed := true, recurses := true, named := ["internal/strconv.uint64pow10", "math/bits.deBruijn32tab", "math/bits.deBruijn64tab"], plainKeys := false, apart := false, laid := [("math/bits.deBruijn32tab", laid_math_bits_deBruijn32tab), ("math/bits.deBruijn64tab", laid_math_bits_deBruijn64tab), ("internal/strconv.uint64pow10", laid_internal_strconv_uint64pow10)], narrowed := true }
def CableMirrorsUptoSaid : Prop := cableMirrorsUptoRow.holds Tryz.pinned (OpenSpec.upto cableMirrorsSpec)

/-- 'bipolelaw06.CableTrips', WHERE WHAT IT READS IS OF BULK AT MOST 1048576: true; the input reads as it did. -/
def cableTripsUptoRow : OpenClaim := { program := "ytcledkhhecdppaagreatdoor", sum := "2827e16d08ecfd02d38faa592f30fba5335b4f15df7c722549d181a4f01cfb37", func := "bipole/bipolelaw06.CableTrips", spec := "cableTrips", inPlace := ["slices.overlaps[bipole/cable.Section]", "slices.overlaps[int]", "internal/abi.NoEscape", "internal/bytealg.MakeNoZero"], unfollowed := true, recurses := true, named := ["internal/strconv.uint64pow10", "math/bits.deBruijn32tab", "math/bits.deBruijn64tab"], plainKeys := false, apart := false, laid := [("math/bits.deBruijn32tab", laid_math_bits_deBruijn32tab), ("math/bits.deBruijn64tab", laid_math_bits_deBruijn64tab), ("internal/strconv.uint64pow10", laid_internal_strconv_uint64pow10)], narrowed := true }
def CableTripsUptoSaid : Prop := cableTripsUptoRow.holds Tryz.pinned (OpenSpec.upto cableTripsSpec)

/-- 'bipolelaw06.CableTexts', WHERE WHAT IT READS IS OF BULK AT MOST 1048576: true; the input reads as it did. -/
def cableTextsUptoRow : OpenClaim := { program := "ytcledkhhecdppaagreatdoor", sum := "2827e16d08ecfd02d38faa592f30fba5335b4f15df7c722549d181a4f01cfb37", func := "bipole/bipolelaw06.CableTexts", spec := "cableTexts", inPlace := ["slices.overlaps[bipole/cable.Section]", "slices.overlaps[int]", "internal/abi.NoEscape", "internal/bytealg.MakeNoZero", "internal/bytealg.IndexByteString", "internal/bytealg.CountString", "internal/bytealg.IndexString"], unfollowed := true, recurses := true, named := ["internal/strconv.uint64pow10", "math/bits.deBruijn32tab", "math/bits.deBruijn64tab", "strconv.ErrSyntax", "strconv.ErrRange", "unicode/utf8.first", "unicode/utf8.acceptRanges", "internal/bytealg.MaxLen"], plainKeys := false, apart := false, laid := [("math/bits.deBruijn32tab", laid_math_bits_deBruijn32tab), ("math/bits.deBruijn64tab", laid_math_bits_deBruijn64tab), ("internal/strconv.uint64pow10", laid_internal_strconv_uint64pow10), ("unicode/utf8.acceptRanges", laid_unicode_utf8_acceptRanges), ("strconv.ErrRange", laid_strconv_ErrRange), ("strconv.ErrSyntax", laid_strconv_ErrSyntax), ("unicode/utf8.first", laid_unicode_utf8_first)], narrowed := true }
def CableTextsUptoSaid : Prop := cableTextsUptoRow.holds Tryz.pinned (OpenSpec.upto cableTextsSpec)

/-- 'bipolelaw06.CableBack', WHERE WHAT IT READS IS OF BULK AT MOST 1048576: true; the input reads as it did. -/
def cableBackUptoRow : OpenClaim := { program := "ytcledkhhecdppaagreatdoor", sum := "2827e16d08ecfd02d38faa592f30fba5335b4f15df7c722549d181a4f01cfb37", func := "bipole/bipolelaw06.CableBack", spec := "cableBack", inPlace := ["slices.overlaps[bipole/cable.Section]", "slices.overlaps[int]", "internal/abi.NoEscape", "internal/bytealg.MakeNoZero", "internal/bytealg.IndexByteString", "internal/bytealg.CountString", "internal/bytealg.IndexString"], unfollowed := true, recurses := true, named := ["internal/strconv.uint64pow10", "math/bits.deBruijn32tab", "math/bits.deBruijn64tab", "strconv.ErrSyntax", "strconv.ErrRange", "unicode/utf8.first", "unicode/utf8.acceptRanges", "internal/bytealg.MaxLen"], plainKeys := false, apart := false, laid := [("math/bits.deBruijn32tab", laid_math_bits_deBruijn32tab), ("math/bits.deBruijn64tab", laid_math_bits_deBruijn64tab), ("internal/strconv.uint64pow10", laid_internal_strconv_uint64pow10), ("unicode/utf8.acceptRanges", laid_unicode_utf8_acceptRanges), ("strconv.ErrRange", laid_strconv_ErrRange), ("strconv.ErrSyntax", laid_strconv_ErrSyntax), ("unicode/utf8.first", laid_unicode_utf8_first)], narrowed := true }
def CableBackUptoSaid : Prop := cableBackUptoRow.holds Tryz.pinned (OpenSpec.upto cableBackSpec)

end Rows
end Go.Proofs.YtcledkhhecdppaaGreatDoor
