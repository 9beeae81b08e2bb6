/-
  NARROWER THAN 'FOR EVERY INPUT', by the rows' own cells (each row's printed sentence says how): FlowLines: laid · FlowCrossings: laid · FlowLosses: laid · FlowMerges: laid · FlowRamps: laid · FlowTrips: laid · FlowShared: laid · FlowSaved: laid · FlowFollows: laid · FlowSupports: laid · FlowSafe: laid · FlowTexts: laid · FlowBack: laid.
  DERIVED. THE GIVEN ROWS OF THIS SEAT. 13 by the template 'for every input the law returns true; each argument reads behind the call as it read before'; 0 by the template 'total and deterministic' (their statements: YtacaadhlobbemaaGreatDoorTotals.lean).
  GIVEN WITH THE SEED: the statements are not yours to turn. If you find one false, say at which input.
  Laid BY PROGRAM, IN A SANDBOX (cutbox-rows.mjs): the forced cells as the released guide's own fill.sh prints them over the translation deba55ec37667916… (all of the seat's roots in one cut). By AI agents, Wed Nov 11 2026. No macro, syntax, notation, axiom, sorry.
-/
import Derived.Test.YtacaadhlobbemaaGreatDoorChecked
import GoSem.PinnedTables
import GoSem.Claim
import GoSem.ClaimJoined
import GoSem.ClaimMapViews
import Derived.JoinedTies
import Derived.KernelRfl
namespace Go.Proofs.YtacaadhlobbemaaGreatDoor
/- THE CELL 'sum', in the pinned program and in every row, IS THE sha256 OF THE DUMP (.gsa) THAT YtacaadhlobbemaaGreatDoorProg.lean LOADS. Nothing in Lean hashes anything: it is a label: what it is worth is what the hold of that sum in a sandbox is worth. -/
noncomputable def Tryz.pinned : Pinned := { name := "ytacaadhlobbemaagreatdoor", sum := "deba55ec3766791632903ea8f116c81f5e2445b2a3763e6559d279442b824806", checked := Tryz.checked }
namespace Rows
def none {H : Type} : Left H := { results := [], args := [] }

/- WHAT THE LISTED PACKAGE-LEVEL VARIABLES READ AS WHEN THE CALL BEGINS. Each datum BY PROGRAM (the guide's laid-datum.mjs) off the statement by which the dump's own 'gosem.cut.vars' lays the variable. In a bare row this is a premise. The card (YtacaadhlobbemaaGreatDoorCards.lean) ties it to the program's text. -/
def laid_math_bits_deBruijn32tab {H : Type} : DataW H := .agg [.lit (.int .u8 0), .lit (.int .u8 1), .lit (.int .u8 28), .lit (.int .u8 2), .lit (.int .u8 29), .lit (.int .u8 14), .lit (.int .u8 24), .lit (.int .u8 3), .lit (.int .u8 30), .lit (.int .u8 22), .lit (.int .u8 20), .lit (.int .u8 15), .lit (.int .u8 25), .lit (.int .u8 17), .lit (.int .u8 4), .lit (.int .u8 8), .lit (.int .u8 31), .lit (.int .u8 27), .lit (.int .u8 13), .lit (.int .u8 23), .lit (.int .u8 21), .lit (.int .u8 19), .lit (.int .u8 16), .lit (.int .u8 7), .lit (.int .u8 26), .lit (.int .u8 12), .lit (.int .u8 18), .lit (.int .u8 6), .lit (.int .u8 11), .lit (.int .u8 5), .lit (.int .u8 10), .lit (.int .u8 9)]
def laid_math_bits_deBruijn64tab {H : Type} : DataW H := .agg [.lit (.int .u8 0), .lit (.int .u8 1), .lit (.int .u8 56), .lit (.int .u8 2), .lit (.int .u8 57), .lit (.int .u8 49), .lit (.int .u8 28), .lit (.int .u8 3), .lit (.int .u8 61), .lit (.int .u8 58), .lit (.int .u8 42), .lit (.int .u8 50), .lit (.int .u8 38), .lit (.int .u8 29), .lit (.int .u8 17), .lit (.int .u8 4), .lit (.int .u8 62), .lit (.int .u8 47), .lit (.int .u8 59), .lit (.int .u8 36), .lit (.int .u8 45), .lit (.int .u8 43), .lit (.int .u8 51), .lit (.int .u8 22), .lit (.int .u8 53), .lit (.int .u8 39), .lit (.int .u8 33), .lit (.int .u8 30), .lit (.int .u8 24), .lit (.int .u8 18), .lit (.int .u8 12), .lit (.int .u8 5), .lit (.int .u8 63), .lit (.int .u8 55), .lit (.int .u8 48), .lit (.int .u8 27), .lit (.int .u8 60), .lit (.int .u8 41), .lit (.int .u8 37), .lit (.int .u8 16), .lit (.int .u8 46), .lit (.int .u8 35), .lit (.int .u8 44), .lit (.int .u8 21), .lit (.int .u8 52), .lit (.int .u8 32), .lit (.int .u8 23), .lit (.int .u8 11), .lit (.int .u8 54), .lit (.int .u8 26), .lit (.int .u8 40), .lit (.int .u8 15), .lit (.int .u8 34), .lit (.int .u8 20), .lit (.int .u8 31), .lit (.int .u8 10), .lit (.int .u8 25), .lit (.int .u8 14), .lit (.int .u8 19), .lit (.int .u8 9), .lit (.int .u8 13), .lit (.int .u8 8), .lit (.int .u8 7), .lit (.int .u8 6)]
def laid_internal_strconv_uint64pow10 {H : Type} : DataW H := .agg [.lit (.int .u64 1), .lit (.int .u64 10), .lit (.int .u64 100), .lit (.int .u64 1000), .lit (.int .u64 10000), .lit (.int .u64 100000), .lit (.int .u64 1000000), .lit (.int .u64 10000000), .lit (.int .u64 100000000), .lit (.int .u64 1000000000), .lit (.int .u64 10000000000), .lit (.int .u64 100000000000), .lit (.int .u64 1000000000000), .lit (.int .u64 10000000000000), .lit (.int .u64 100000000000000), .lit (.int .u64 1000000000000000), .lit (.int .u64 10000000000000000), .lit (.int .u64 100000000000000000), .lit (.int .u64 1000000000000000000), .lit (.int .u64 10000000000000000000)]
def laid_unicode_utf8_acceptRanges {H : Type} : DataW H := .agg [.agg [.lit (.int .u8 128), .lit (.int .u8 191)], .agg [.lit (.int .u8 160), .lit (.int .u8 191)], .agg [.lit (.int .u8 128), .lit (.int .u8 159)], .agg [.lit (.int .u8 144), .lit (.int .u8 191)], .agg [.lit (.int .u8 128), .lit (.int .u8 143)], .agg [.lit (.int .u8 0), .lit (.int .u8 0)], .agg [.lit (.int .u8 0), .lit (.int .u8 0)], .agg [.lit (.int .u8 0), .lit (.int .u8 0)], .agg [.lit (.int .u8 0), .lit (.int .u8 0)], .agg [.lit (.int .u8 0), .lit (.int .u8 0)], .agg [.lit (.int .u8 0), .lit (.int .u8 0)], .agg [.lit (.int .u8 0), .lit (.int .u8 0)], .agg [.lit (.int .u8 0), .lit (.int .u8 0)], .agg [.lit (.int .u8 0), .lit (.int .u8 0)], .agg [.lit (.int .u8 0), .lit (.int .u8 0)], .agg [.lit (.int .u8 0), .lit (.int .u8 0)]]
def laid_strconv_ErrRange {H : Type} : DataW H := .iface "*errors.errorString" (.ptr (.agg [.lit (.string [118, 97, 108, 117, 101, 32, 111, 117, 116, 32, 111, 102, 32, 114, 97, 110, 103, 101])]))
def laid_strconv_ErrSyntax {H : Type} : DataW H := .iface "*errors.errorString" (.ptr (.agg [.lit (.string [105, 110, 118, 97, 108, 105, 100, 32, 115, 121, 110, 116, 97, 120])]))
/-- One of Go's own tables, pinned by name: the form's constant. -/
def laid_unicode_utf8_first : DataW Unit := Go.Pinned.utf8First

/-- 'bipolelaw05.FlowLines': WHATEVER THE INPUT: true; the input reads as it did. -/
def flowLinesSpec : ChangeSpec := { name := "flowLines", fn := fun _ => fun
  | [d1, d2, d3] => { results := [.lit (.bool true)], args := [d1, d2, d3] }
  | _ => none }
def flowLinesRow : OpenClaim := { program := "ytacaadhlobbemaagreatdoor", sum := "deba55ec3766791632903ea8f116c81f5e2445b2a3763e6559d279442b824806", func := "bipole/bipolelaw05.FlowLines", spec := "flowLines", inPlace := ["internal/abi.NoEscape", "internal/bytealg.MakeNoZero"], unfollowed := true, recurses := true, named := ["internal/strconv.uint64pow10", "math/bits.deBruijn32tab", "math/bits.deBruijn64tab"], apart := false, laid := [("math/bits.deBruijn32tab", laid_math_bits_deBruijn32tab), ("math/bits.deBruijn64tab", laid_math_bits_deBruijn64tab), ("internal/strconv.uint64pow10", laid_internal_strconv_uint64pow10)] }
def FlowLinesSaid : Prop := flowLinesRow.holds Tryz.pinned (OpenSpec.ofChange flowLinesSpec)

/-- ITS FALSE NEIGHBOUR: 'it returns false'. Refute it at one input. -/
def flowLinesWrong : ChangeSpec := { name := "flowLines", fn := fun _ => fun
  | [d1, d2, d3] => { results := [.lit (.bool false)], args := [d1, d2, d3] }
  | _ => none }
def FlowLinesWrongFalsely : Prop := flowLinesRow.holds Tryz.pinned (OpenSpec.ofChange flowLinesWrong)

/-- 'bipolelaw05.FlowCrossings': WHATEVER THE INPUT: true; the input reads as it did. -/
def flowCrossingsSpec : ChangeSpec := { name := "flowCrossings", fn := fun _ => fun
  | [d1, d2] => { results := [.lit (.bool true)], args := [d1, d2] }
  | _ => none }
def flowCrossingsRow : OpenClaim := { program := "ytacaadhlobbemaagreatdoor", sum := "deba55ec3766791632903ea8f116c81f5e2445b2a3763e6559d279442b824806", func := "bipole/bipolelaw05.FlowCrossings", spec := "flowCrossings", inPlace := ["internal/abi.NoEscape", "internal/bytealg.MakeNoZero"], unfollowed := true, recurses := true, named := ["internal/strconv.uint64pow10", "math/bits.deBruijn32tab", "math/bits.deBruijn64tab"], apart := false, laid := [("math/bits.deBruijn32tab", laid_math_bits_deBruijn32tab), ("math/bits.deBruijn64tab", laid_math_bits_deBruijn64tab), ("internal/strconv.uint64pow10", laid_internal_strconv_uint64pow10)] }
def FlowCrossingsSaid : Prop := flowCrossingsRow.holds Tryz.pinned (OpenSpec.ofChange flowCrossingsSpec)

/-- ITS FALSE NEIGHBOUR: 'it returns false'. Refute it at one input. -/
def flowCrossingsWrong : ChangeSpec := { name := "flowCrossings", fn := fun _ => fun
  | [d1, d2] => { results := [.lit (.bool false)], args := [d1, d2] }
  | _ => none }
def FlowCrossingsWrongFalsely : Prop := flowCrossingsRow.holds Tryz.pinned (OpenSpec.ofChange flowCrossingsWrong)

/-- 'bipolelaw05.FlowLosses': WHATEVER THE INPUT: true; the input reads as it did. -/
def flowLossesSpec : ChangeSpec := { name := "flowLosses", fn := fun _ => fun
  | [d1, d2, d3] => { results := [.lit (.bool true)], args := [d1, d2, d3] }
  | _ => none }
def flowLossesRow : OpenClaim := { program := "ytacaadhlobbemaagreatdoor", sum := "deba55ec3766791632903ea8f116c81f5e2445b2a3763e6559d279442b824806", func := "bipole/bipolelaw05.FlowLosses", spec := "flowLosses", inPlace := ["internal/abi.NoEscape", "internal/bytealg.MakeNoZero"], unfollowed := true, recurses := true, named := ["internal/strconv.uint64pow10", "math/bits.deBruijn32tab", "math/bits.deBruijn64tab"], apart := false, laid := [("math/bits.deBruijn32tab", laid_math_bits_deBruijn32tab), ("math/bits.deBruijn64tab", laid_math_bits_deBruijn64tab), ("internal/strconv.uint64pow10", laid_internal_strconv_uint64pow10)] }
def FlowLossesSaid : Prop := flowLossesRow.holds Tryz.pinned (OpenSpec.ofChange flowLossesSpec)

/-- ITS FALSE NEIGHBOUR: 'it returns false'. Refute it at one input. -/
def flowLossesWrong : ChangeSpec := { name := "flowLosses", fn := fun _ => fun
  | [d1, d2, d3] => { results := [.lit (.bool false)], args := [d1, d2, d3] }
  | _ => none }
def FlowLossesWrongFalsely : Prop := flowLossesRow.holds Tryz.pinned (OpenSpec.ofChange flowLossesWrong)

/-- 'bipolelaw05.FlowMerges': WHATEVER THE INPUT: true; the input reads as it did. -/
def flowMergesSpec : ChangeSpec := { name := "flowMerges", fn := fun _ => fun
  | [d1, d2] => { results := [.lit (.bool true)], args := [d1, d2] }
  | _ => none }
def flowMergesRow : OpenClaim := { program := "ytacaadhlobbemaagreatdoor", sum := "deba55ec3766791632903ea8f116c81f5e2445b2a3763e6559d279442b824806", func := "bipole/bipolelaw05.FlowMerges", spec := "flowMerges", inPlace := ["internal/abi.NoEscape", "internal/bytealg.MakeNoZero"], unfollowed := true, recurses := true, named := ["internal/strconv.uint64pow10", "math/bits.deBruijn32tab", "math/bits.deBruijn64tab"], apart := false, laid := [("math/bits.deBruijn32tab", laid_math_bits_deBruijn32tab), ("math/bits.deBruijn64tab", laid_math_bits_deBruijn64tab), ("internal/strconv.uint64pow10", laid_internal_strconv_uint64pow10)] }
def FlowMergesSaid : Prop := flowMergesRow.holds Tryz.pinned (OpenSpec.ofChange flowMergesSpec)

/-- ITS FALSE NEIGHBOUR: 'it returns false'. Refute it at one input. -/
def flowMergesWrong : ChangeSpec := { name := "flowMerges", fn := fun _ => fun
  | [d1, d2] => { results := [.lit (.bool false)], args := [d1, d2] }
  | _ => none }
def FlowMergesWrongFalsely : Prop := flowMergesRow.holds Tryz.pinned (OpenSpec.ofChange flowMergesWrong)

/-- 'bipolelaw05.FlowRamps': WHATEVER THE INPUT: true; the input reads as it did. -/
def flowRampsSpec : ChangeSpec := { name := "flowRamps", fn := fun _ => fun
  | [d1, d2, d3] => { results := [.lit (.bool true)], args := [d1, d2, d3] }
  | _ => none }
def flowRampsRow : OpenClaim := { program := "ytacaadhlobbemaagreatdoor", sum := "deba55ec3766791632903ea8f116c81f5e2445b2a3763e6559d279442b824806", func := "bipole/bipolelaw05.FlowRamps", spec := "flowRamps", inPlace := ["internal/abi.NoEscape", "internal/bytealg.MakeNoZero"], unfollowed := true, recurses := true, named := ["internal/strconv.uint64pow10", "math/bits.deBruijn32tab", "math/bits.deBruijn64tab"], apart := false, laid := [("math/bits.deBruijn32tab", laid_math_bits_deBruijn32tab), ("math/bits.deBruijn64tab", laid_math_bits_deBruijn64tab), ("internal/strconv.uint64pow10", laid_internal_strconv_uint64pow10)] }
def FlowRampsSaid : Prop := flowRampsRow.holds Tryz.pinned (OpenSpec.ofChange flowRampsSpec)

/-- ITS FALSE NEIGHBOUR: 'it returns false'. Refute it at one input. -/
def flowRampsWrong : ChangeSpec := { name := "flowRamps", fn := fun _ => fun
  | [d1, d2, d3] => { results := [.lit (.bool false)], args := [d1, d2, d3] }
  | _ => none }
def FlowRampsWrongFalsely : Prop := flowRampsRow.holds Tryz.pinned (OpenSpec.ofChange flowRampsWrong)

/-- 'bipolelaw05.FlowTrips': WHATEVER THE INPUT: true; the input reads as it did. -/
def flowTripsSpec : ChangeSpec := { name := "flowTrips", fn := fun _ => fun
  | [d1, d2] => { results := [.lit (.bool true)], args := [d1, d2] }
  | _ => none }
def flowTripsRow : OpenClaim := { program := "ytacaadhlobbemaagreatdoor", sum := "deba55ec3766791632903ea8f116c81f5e2445b2a3763e6559d279442b824806", func := "bipole/bipolelaw05.FlowTrips", spec := "flowTrips", inPlace := ["internal/abi.NoEscape", "internal/bytealg.MakeNoZero"], unfollowed := true, recurses := true, named := ["internal/strconv.uint64pow10", "math/bits.deBruijn32tab", "math/bits.deBruijn64tab"], apart := false, laid := [("math/bits.deBruijn32tab", laid_math_bits_deBruijn32tab), ("math/bits.deBruijn64tab", laid_math_bits_deBruijn64tab), ("internal/strconv.uint64pow10", laid_internal_strconv_uint64pow10)] }
def FlowTripsSaid : Prop := flowTripsRow.holds Tryz.pinned (OpenSpec.ofChange flowTripsSpec)

/-- ITS FALSE NEIGHBOUR: 'it returns false'. Refute it at one input. -/
def flowTripsWrong : ChangeSpec := { name := "flowTrips", fn := fun _ => fun
  | [d1, d2] => { results := [.lit (.bool false)], args := [d1, d2] }
  | _ => none }
def FlowTripsWrongFalsely : Prop := flowTripsRow.holds Tryz.pinned (OpenSpec.ofChange flowTripsWrong)

/-- 'bipolelaw05.FlowShared': WHATEVER THE INPUT: true; the input reads as it did. -/
def flowSharedSpec : ChangeSpec := { name := "flowShared", fn := fun _ => fun
  | [d1, d2, d3] => { results := [.lit (.bool true)], args := [d1, d2, d3] }
  | _ => none }
def flowSharedRow : OpenClaim := { program := "ytacaadhlobbemaagreatdoor", sum := "deba55ec3766791632903ea8f116c81f5e2445b2a3763e6559d279442b824806", func := "bipole/bipolelaw05.FlowShared", spec := "flowShared", inPlace := ["internal/abi.NoEscape", "internal/bytealg.MakeNoZero"], unfollowed := true, recurses := true, named := ["internal/strconv.uint64pow10", "math/bits.deBruijn32tab", "math/bits.deBruijn64tab"], apart := false, laid := [("math/bits.deBruijn32tab", laid_math_bits_deBruijn32tab), ("math/bits.deBruijn64tab", laid_math_bits_deBruijn64tab), ("internal/strconv.uint64pow10", laid_internal_strconv_uint64pow10)] }
def FlowSharedSaid : Prop := flowSharedRow.holds Tryz.pinned (OpenSpec.ofChange flowSharedSpec)

/-- ITS FALSE NEIGHBOUR: 'it returns false'. Refute it at one input. -/
def flowSharedWrong : ChangeSpec := { name := "flowShared", fn := fun _ => fun
  | [d1, d2, d3] => { results := [.lit (.bool false)], args := [d1, d2, d3] }
  | _ => none }
def FlowSharedWrongFalsely : Prop := flowSharedRow.holds Tryz.pinned (OpenSpec.ofChange flowSharedWrong)

/-- 'bipolelaw05.FlowSaved': WHATEVER THE INPUT: true; the input reads as it did. -/
def flowSavedSpec : ChangeSpec := { name := "flowSaved", fn := fun _ => fun
  | [d1, d2, d3] => { results := [.lit (.bool true)], args := [d1, d2, d3] }
  | _ => none }
def flowSavedRow : OpenClaim := { program := "ytacaadhlobbemaagreatdoor", sum := "deba55ec3766791632903ea8f116c81f5e2445b2a3763e6559d279442b824806", func := "bipole/bipolelaw05.FlowSaved", spec := "flowSaved", inPlace := ["internal/abi.NoEscape", "internal/bytealg.MakeNoZero"], unfollowed := true, recurses := true, named := ["internal/strconv.uint64pow10", "math/bits.deBruijn32tab", "math/bits.deBruijn64tab"], apart := false, laid := [("math/bits.deBruijn32tab", laid_math_bits_deBruijn32tab), ("math/bits.deBruijn64tab", laid_math_bits_deBruijn64tab), ("internal/strconv.uint64pow10", laid_internal_strconv_uint64pow10)] }
def FlowSavedSaid : Prop := flowSavedRow.holds Tryz.pinned (OpenSpec.ofChange flowSavedSpec)

/-- ITS FALSE NEIGHBOUR: 'it returns false'. Refute it at one input. -/
def flowSavedWrong : ChangeSpec := { name := "flowSaved", fn := fun _ => fun
  | [d1, d2, d3] => { results := [.lit (.bool false)], args := [d1, d2, d3] }
  | _ => none }
def FlowSavedWrongFalsely : Prop := flowSavedRow.holds Tryz.pinned (OpenSpec.ofChange flowSavedWrong)

/-- 'bipolelaw05.FlowFollows': WHATEVER THE INPUT: true; the input reads as it did. -/
def flowFollowsSpec : ChangeSpec := { name := "flowFollows", fn := fun _ => fun
  | [d1, d2, d3] => { results := [.lit (.bool true)], args := [d1, d2, d3] }
  | _ => none }
def flowFollowsRow : OpenClaim := { program := "ytacaadhlobbemaagreatdoor", sum := "deba55ec3766791632903ea8f116c81f5e2445b2a3763e6559d279442b824806", func := "bipole/bipolelaw05.FlowFollows", spec := "flowFollows", inPlace := ["internal/abi.NoEscape", "internal/bytealg.MakeNoZero"], unfollowed := true, recurses := true, named := ["internal/strconv.uint64pow10", "math/bits.deBruijn32tab", "math/bits.deBruijn64tab"], apart := false, laid := [("math/bits.deBruijn32tab", laid_math_bits_deBruijn32tab), ("math/bits.deBruijn64tab", laid_math_bits_deBruijn64tab), ("internal/strconv.uint64pow10", laid_internal_strconv_uint64pow10)] }
def FlowFollowsSaid : Prop := flowFollowsRow.holds Tryz.pinned (OpenSpec.ofChange flowFollowsSpec)

/-- ITS FALSE NEIGHBOUR: 'it returns false'. Refute it at one input. -/
def flowFollowsWrong : ChangeSpec := { name := "flowFollows", fn := fun _ => fun
  | [d1, d2, d3] => { results := [.lit (.bool false)], args := [d1, d2, d3] }
  | _ => none }
def FlowFollowsWrongFalsely : Prop := flowFollowsRow.holds Tryz.pinned (OpenSpec.ofChange flowFollowsWrong)

/-- 'bipolelaw05.FlowSupports': WHATEVER THE INPUT: true; the input reads as it did. -/
def flowSupportsSpec : ChangeSpec := { name := "flowSupports", fn := fun _ => fun
  | [d1, d2, d3] => { results := [.lit (.bool true)], args := [d1, d2, d3] }
  | _ => none }
def flowSupportsRow : OpenClaim := { program := "ytacaadhlobbemaagreatdoor", sum := "deba55ec3766791632903ea8f116c81f5e2445b2a3763e6559d279442b824806", func := "bipole/bipolelaw05.FlowSupports", spec := "flowSupports", inPlace := ["internal/abi.NoEscape", "internal/bytealg.MakeNoZero"], unfollowed := true, recurses := true, named := ["internal/strconv.uint64pow10", "math/bits.deBruijn32tab", "math/bits.deBruijn64tab"], apart := false, laid := [("math/bits.deBruijn32tab", laid_math_bits_deBruijn32tab), ("math/bits.deBruijn64tab", laid_math_bits_deBruijn64tab), ("internal/strconv.uint64pow10", laid_internal_strconv_uint64pow10)] }
def FlowSupportsSaid : Prop := flowSupportsRow.holds Tryz.pinned (OpenSpec.ofChange flowSupportsSpec)

/-- ITS FALSE NEIGHBOUR: 'it returns false'. Refute it at one input. -/
def flowSupportsWrong : ChangeSpec := { name := "flowSupports", fn := fun _ => fun
  | [d1, d2, d3] => { results := [.lit (.bool false)], args := [d1, d2, d3] }
  | _ => none }
def FlowSupportsWrongFalsely : Prop := flowSupportsRow.holds Tryz.pinned (OpenSpec.ofChange flowSupportsWrong)

/-- 'bipolelaw05.FlowSafe': WHATEVER THE INPUT: true; the input reads as it did. -/
def flowSafeSpec : ChangeSpec := { name := "flowSafe", fn := fun _ => fun
  | [d1, d2, d3] => { results := [.lit (.bool true)], args := [d1, d2, d3] }
  | _ => none }
def flowSafeRow : OpenClaim := { program := "ytacaadhlobbemaagreatdoor", sum := "deba55ec3766791632903ea8f116c81f5e2445b2a3763e6559d279442b824806", func := "bipole/bipolelaw05.FlowSafe", spec := "flowSafe", inPlace := ["internal/abi.NoEscape", "internal/bytealg.MakeNoZero"], unfollowed := true, recurses := true, named := ["internal/strconv.uint64pow10", "math/bits.deBruijn32tab", "math/bits.deBruijn64tab"], apart := false, laid := [("math/bits.deBruijn32tab", laid_math_bits_deBruijn32tab), ("math/bits.deBruijn64tab", laid_math_bits_deBruijn64tab), ("internal/strconv.uint64pow10", laid_internal_strconv_uint64pow10)] }
def FlowSafeSaid : Prop := flowSafeRow.holds Tryz.pinned (OpenSpec.ofChange flowSafeSpec)

/-- ITS FALSE NEIGHBOUR: 'it returns false'. Refute it at one input. -/
def flowSafeWrong : ChangeSpec := { name := "flowSafe", fn := fun _ => fun
  | [d1, d2, d3] => { results := [.lit (.bool false)], args := [d1, d2, d3] }
  | _ => none }
def FlowSafeWrongFalsely : Prop := flowSafeRow.holds Tryz.pinned (OpenSpec.ofChange flowSafeWrong)

/-- 'bipolelaw05.FlowTexts': WHATEVER THE INPUT: true; the input reads as it did. -/
def flowTextsSpec : ChangeSpec := { name := "flowTexts", fn := fun _ => fun
  | [d1, d2] => { results := [.lit (.bool true)], args := [d1, d2] }
  | _ => none }
def flowTextsRow : OpenClaim := { program := "ytacaadhlobbemaagreatdoor", sum := "deba55ec3766791632903ea8f116c81f5e2445b2a3763e6559d279442b824806", func := "bipole/bipolelaw05.FlowTexts", spec := "flowTexts", inPlace := ["internal/abi.NoEscape", "internal/bytealg.MakeNoZero", "internal/bytealg.IndexByteString", "internal/bytealg.CountString", "internal/bytealg.IndexString"], unfollowed := true, recurses := true, named := ["internal/strconv.uint64pow10", "math/bits.deBruijn32tab", "math/bits.deBruijn64tab", "unicode/utf8.first", "unicode/utf8.acceptRanges", "internal/bytealg.MaxLen", "strconv.ErrSyntax", "strconv.ErrRange"], apart := false, laid := [("math/bits.deBruijn32tab", laid_math_bits_deBruijn32tab), ("math/bits.deBruijn64tab", laid_math_bits_deBruijn64tab), ("internal/strconv.uint64pow10", laid_internal_strconv_uint64pow10), ("unicode/utf8.acceptRanges", laid_unicode_utf8_acceptRanges), ("strconv.ErrRange", laid_strconv_ErrRange), ("strconv.ErrSyntax", laid_strconv_ErrSyntax), ("unicode/utf8.first", laid_unicode_utf8_first)] }
def FlowTextsSaid : Prop := flowTextsRow.holds Tryz.pinned (OpenSpec.ofChange flowTextsSpec)

/-- ITS FALSE NEIGHBOUR: 'it returns false'. Refute it at one input. -/
def flowTextsWrong : ChangeSpec := { name := "flowTexts", fn := fun _ => fun
  | [d1, d2] => { results := [.lit (.bool false)], args := [d1, d2] }
  | _ => none }
def FlowTextsWrongFalsely : Prop := flowTextsRow.holds Tryz.pinned (OpenSpec.ofChange flowTextsWrong)

/-- 'bipolelaw05.FlowBack': WHATEVER THE INPUT: true; the input reads as it did. -/
def flowBackSpec : ChangeSpec := { name := "flowBack", fn := fun _ => fun
  | [d1, d2] => { results := [.lit (.bool true)], args := [d1, d2] }
  | _ => none }
def flowBackRow : OpenClaim := { program := "ytacaadhlobbemaagreatdoor", sum := "deba55ec3766791632903ea8f116c81f5e2445b2a3763e6559d279442b824806", func := "bipole/bipolelaw05.FlowBack", spec := "flowBack", inPlace := ["internal/abi.NoEscape", "internal/bytealg.MakeNoZero", "internal/bytealg.IndexByteString", "internal/bytealg.CountString", "internal/bytealg.IndexString"], unfollowed := true, recurses := true, named := ["internal/strconv.uint64pow10", "math/bits.deBruijn32tab", "math/bits.deBruijn64tab", "unicode/utf8.first", "unicode/utf8.acceptRanges", "internal/bytealg.MaxLen", "strconv.ErrSyntax", "strconv.ErrRange"], apart := false, laid := [("math/bits.deBruijn32tab", laid_math_bits_deBruijn32tab), ("math/bits.deBruijn64tab", laid_math_bits_deBruijn64tab), ("internal/strconv.uint64pow10", laid_internal_strconv_uint64pow10), ("unicode/utf8.acceptRanges", laid_unicode_utf8_acceptRanges), ("strconv.ErrRange", laid_strconv_ErrRange), ("strconv.ErrSyntax", laid_strconv_ErrSyntax), ("unicode/utf8.first", laid_unicode_utf8_first)] }
def FlowBackSaid : Prop := flowBackRow.holds Tryz.pinned (OpenSpec.ofChange flowBackSpec)

/-- ITS FALSE NEIGHBOUR: 'it returns false'. Refute it at one input. -/
def flowBackWrong : ChangeSpec := { name := "flowBack", fn := fun _ => fun
  | [d1, d2] => { results := [.lit (.bool false)], args := [d1, d2] }
  | _ => none }
def FlowBackWrongFalsely : Prop := flowBackRow.holds Tryz.pinned (OpenSpec.ofChange flowBackWrong)

/- THE SECOND FORM. 'bulk': how many values and letters a reading holds, each counted each time it is reached (what is shared counts as often as it is met; a slice's spare places count too). A statement '..UptoSaid' is the law's where the arguments, and the package variables that the reading takes, are together of bulk at most 1048576: NARROWER than '..Said'. Prove '..Said' where nothing that the law and all that it calls make is longer than what came in: it says more and counts as full. Else prove '..UptoSaid'. A law counts once. -/
mutual
def uptoBulk {H : Type} : DataW H → Nat
  | .lit (.string bytes) => bytes.length + 1
  | .lit _ => 1
  | .nil => 1
  | .ptr d => uptoBulk d + 1
  | .slice elems spare => uptoBulkAll elems + uptoBulkAll spare + 1
  | .agg parts => uptoBulkAll parts + 1
  | .iface _ d => uptoBulk d + 1
  | .map entries => uptoBulkEntries entries + 1
  | .held _ => 1
def uptoBulkAll {H : Type} : List (DataW H) → Nat
  | [] => 0
  | d :: r => uptoBulk d + uptoBulkAll r
def uptoBulkEntries {H : Type} : List (Lit × DataW H) → Nat
  | [] => 0
  | x :: r => uptoBulkEntry x + uptoBulkEntries r
def uptoBulkEntry {H : Type} : Lit × DataW H → Nat
  | (.string bytes, d) => bytes.length + uptoBulk d + 1
  | (_, d) => uptoBulk d + 1
 end
def uptoSmall : (H : Type) → List (DataW H) → Bool := fun _ ds => decide (uptoBulkAll ds ≤ 1048576)
def OpenSpec.upto (s : _root_.Go.ChangeSpec) : _root_.Go.OpenSpec := { _root_.Go.OpenSpec.ofChange s with cond := some uptoSmall }

/-- 'bipolelaw05.FlowLines', WHERE WHAT IT READS IS OF BULK AT MOST 1048576: true; the input reads as it did. -/
def flowLinesUptoRow : OpenClaim := { program := "ytacaadhlobbemaagreatdoor", sum := "deba55ec3766791632903ea8f116c81f5e2445b2a3763e6559d279442b824806", func := "bipole/bipolelaw05.FlowLines", spec := "flowLines", inPlace := ["internal/abi.NoEscape", "internal/bytealg.MakeNoZero"], unfollowed := true, recurses := true, named := ["internal/strconv.uint64pow10", "math/bits.deBruijn32tab", "math/bits.deBruijn64tab"], apart := false, laid := [("math/bits.deBruijn32tab", laid_math_bits_deBruijn32tab), ("math/bits.deBruijn64tab", laid_math_bits_deBruijn64tab), ("internal/strconv.uint64pow10", laid_internal_strconv_uint64pow10)], narrowed := true }
def FlowLinesUptoSaid : Prop := flowLinesUptoRow.holds Tryz.pinned (OpenSpec.upto flowLinesSpec)

/-- 'bipolelaw05.FlowCrossings', WHERE WHAT IT READS IS OF BULK AT MOST 1048576: true; the input reads as it did. -/
def flowCrossingsUptoRow : OpenClaim := { program := "ytacaadhlobbemaagreatdoor", sum := "deba55ec3766791632903ea8f116c81f5e2445b2a3763e6559d279442b824806", func := "bipole/bipolelaw05.FlowCrossings", spec := "flowCrossings", inPlace := ["internal/abi.NoEscape", "internal/bytealg.MakeNoZero"], unfollowed := true, recurses := true, named := ["internal/strconv.uint64pow10", "math/bits.deBruijn32tab", "math/bits.deBruijn64tab"], apart := false, laid := [("math/bits.deBruijn32tab", laid_math_bits_deBruijn32tab), ("math/bits.deBruijn64tab", laid_math_bits_deBruijn64tab), ("internal/strconv.uint64pow10", laid_internal_strconv_uint64pow10)], narrowed := true }
def FlowCrossingsUptoSaid : Prop := flowCrossingsUptoRow.holds Tryz.pinned (OpenSpec.upto flowCrossingsSpec)

/-- 'bipolelaw05.FlowLosses', WHERE WHAT IT READS IS OF BULK AT MOST 1048576: true; the input reads as it did. -/
def flowLossesUptoRow : OpenClaim := { program := "ytacaadhlobbemaagreatdoor", sum := "deba55ec3766791632903ea8f116c81f5e2445b2a3763e6559d279442b824806", func := "bipole/bipolelaw05.FlowLosses", spec := "flowLosses", inPlace := ["internal/abi.NoEscape", "internal/bytealg.MakeNoZero"], unfollowed := true, recurses := true, named := ["internal/strconv.uint64pow10", "math/bits.deBruijn32tab", "math/bits.deBruijn64tab"], apart := false, laid := [("math/bits.deBruijn32tab", laid_math_bits_deBruijn32tab), ("math/bits.deBruijn64tab", laid_math_bits_deBruijn64tab), ("internal/strconv.uint64pow10", laid_internal_strconv_uint64pow10)], narrowed := true }
def FlowLossesUptoSaid : Prop := flowLossesUptoRow.holds Tryz.pinned (OpenSpec.upto flowLossesSpec)

/-- 'bipolelaw05.FlowMerges', WHERE WHAT IT READS IS OF BULK AT MOST 1048576: true; the input reads as it did. -/
def flowMergesUptoRow : OpenClaim := { program := "ytacaadhlobbemaagreatdoor", sum := "deba55ec3766791632903ea8f116c81f5e2445b2a3763e6559d279442b824806", func := "bipole/bipolelaw05.FlowMerges", spec := "flowMerges", inPlace := ["internal/abi.NoEscape", "internal/bytealg.MakeNoZero"], unfollowed := true, recurses := true, named := ["internal/strconv.uint64pow10", "math/bits.deBruijn32tab", "math/bits.deBruijn64tab"], apart := false, laid := [("math/bits.deBruijn32tab", laid_math_bits_deBruijn32tab), ("math/bits.deBruijn64tab", laid_math_bits_deBruijn64tab), ("internal/strconv.uint64pow10", laid_internal_strconv_uint64pow10)], narrowed := true }
def FlowMergesUptoSaid : Prop := flowMergesUptoRow.holds Tryz.pinned (OpenSpec.upto flowMergesSpec)

/-- 'bipolelaw05.FlowRamps', WHERE WHAT IT READS IS OF BULK AT MOST 1048576: true; the input reads as it did. -/
def flowRampsUptoRow : OpenClaim := { program := "ytacaadhlobbemaagreatdoor", sum := "deba55ec3766791632903ea8f116c81f5e2445b2a3763e6559d279442b824806", func := "bipole/bipolelaw05.FlowRamps", spec := "flowRamps", inPlace := ["internal/abi.NoEscape", "internal/bytealg.MakeNoZero"], unfollowed := true, recurses := true, named := ["internal/strconv.uint64pow10", "math/bits.deBruijn32tab", "math/bits.deBruijn64tab"], apart := false, laid := [("math/bits.deBruijn32tab", laid_math_bits_deBruijn32tab), ("math/bits.deBruijn64tab", laid_math_bits_deBruijn64tab), ("internal/strconv.uint64pow10", laid_internal_strconv_uint64pow10)], narrowed := true }
def FlowRampsUptoSaid : Prop := flowRampsUptoRow.holds Tryz.pinned (OpenSpec.upto flowRampsSpec)

/-- 'bipolelaw05.FlowTrips', WHERE WHAT IT READS IS OF BULK AT MOST 1048576: true; the input reads as it did. -/
def flowTripsUptoRow : OpenClaim := { program := "ytacaadhlobbemaagreatdoor", sum := "deba55ec3766791632903ea8f116c81f5e2445b2a3763e6559d279442b824806", func := "bipole/bipolelaw05.FlowTrips", spec := "flowTrips", inPlace := ["internal/abi.NoEscape", "internal/bytealg.MakeNoZero"], unfollowed := true, recurses := true, named := ["internal/strconv.uint64pow10", "math/bits.deBruijn32tab", "math/bits.deBruijn64tab"], apart := false, laid := [("math/bits.deBruijn32tab", laid_math_bits_deBruijn32tab), ("math/bits.deBruijn64tab", laid_math_bits_deBruijn64tab), ("internal/strconv.uint64pow10", laid_internal_strconv_uint64pow10)], narrowed := true }
def FlowTripsUptoSaid : Prop := flowTripsUptoRow.holds Tryz.pinned (OpenSpec.upto flowTripsSpec)

/-- 'bipolelaw05.FlowShared', WHERE WHAT IT READS IS OF BULK AT MOST 1048576: true; the input reads as it did. -/
def flowSharedUptoRow : OpenClaim := { program := "ytacaadhlobbemaagreatdoor", sum := "deba55ec3766791632903ea8f116c81f5e2445b2a3763e6559d279442b824806", func := "bipole/bipolelaw05.FlowShared", spec := "flowShared", inPlace := ["internal/abi.NoEscape", "internal/bytealg.MakeNoZero"], unfollowed := true, recurses := true, named := ["internal/strconv.uint64pow10", "math/bits.deBruijn32tab", "math/bits.deBruijn64tab"], apart := false, laid := [("math/bits.deBruijn32tab", laid_math_bits_deBruijn32tab), ("math/bits.deBruijn64tab", laid_math_bits_deBruijn64tab), ("internal/strconv.uint64pow10", laid_internal_strconv_uint64pow10)], narrowed := true }
def FlowSharedUptoSaid : Prop := flowSharedUptoRow.holds Tryz.pinned (OpenSpec.upto flowSharedSpec)

/-- 'bipolelaw05.FlowSaved', WHERE WHAT IT READS IS OF BULK AT MOST 1048576: true; the input reads as it did. -/
def flowSavedUptoRow : OpenClaim := { program := "ytacaadhlobbemaagreatdoor", sum := "deba55ec3766791632903ea8f116c81f5e2445b2a3763e6559d279442b824806", func := "bipole/bipolelaw05.FlowSaved", spec := "flowSaved", inPlace := ["internal/abi.NoEscape", "internal/bytealg.MakeNoZero"], unfollowed := true, recurses := true, named := ["internal/strconv.uint64pow10", "math/bits.deBruijn32tab", "math/bits.deBruijn64tab"], apart := false, laid := [("math/bits.deBruijn32tab", laid_math_bits_deBruijn32tab), ("math/bits.deBruijn64tab", laid_math_bits_deBruijn64tab), ("internal/strconv.uint64pow10", laid_internal_strconv_uint64pow10)], narrowed := true }
def FlowSavedUptoSaid : Prop := flowSavedUptoRow.holds Tryz.pinned (OpenSpec.upto flowSavedSpec)

/-- 'bipolelaw05.FlowFollows', WHERE WHAT IT READS IS OF BULK AT MOST 1048576: true; the input reads as it did. -/
def flowFollowsUptoRow : OpenClaim := { program := "ytacaadhlobbemaagreatdoor", sum := "deba55ec3766791632903ea8f116c81f5e2445b2a3763e6559d279442b824806", func := "bipole/bipolelaw05.FlowFollows", spec := "flowFollows", inPlace := ["internal/abi.NoEscape", "internal/bytealg.MakeNoZero"], unfollowed := true, recurses := true, named := ["internal/strconv.uint64pow10", "math/bits.deBruijn32tab", "math/bits.deBruijn64tab"], apart := false, laid := [("math/bits.deBruijn32tab", laid_math_bits_deBruijn32tab), ("math/bits.deBruijn64tab", laid_math_bits_deBruijn64tab), ("internal/strconv.uint64pow10", laid_internal_strconv_uint64pow10)], narrowed := true }
def FlowFollowsUptoSaid : Prop := flowFollowsUptoRow.holds Tryz.pinned (OpenSpec.upto flowFollowsSpec)

/-- 'bipolelaw05.FlowSupports', WHERE WHAT IT READS IS OF BULK AT MOST 1048576: true; the input reads as it did. -/
def flowSupportsUptoRow : OpenClaim := { program := "ytacaadhlobbemaagreatdoor", sum := "deba55ec3766791632903ea8f116c81f5e2445b2a3763e6559d279442b824806", func := "bipole/bipolelaw05.FlowSupports", spec := "flowSupports", inPlace := ["internal/abi.NoEscape", "internal/bytealg.MakeNoZero"], unfollowed := true, recurses := true, named := ["internal/strconv.uint64pow10", "math/bits.deBruijn32tab", "math/bits.deBruijn64tab"], apart := false, laid := [("math/bits.deBruijn32tab", laid_math_bits_deBruijn32tab), ("math/bits.deBruijn64tab", laid_math_bits_deBruijn64tab), ("internal/strconv.uint64pow10", laid_internal_strconv_uint64pow10)], narrowed := true }
def FlowSupportsUptoSaid : Prop := flowSupportsUptoRow.holds Tryz.pinned (OpenSpec.upto flowSupportsSpec)

/-- 'bipolelaw05.FlowSafe', WHERE WHAT IT READS IS OF BULK AT MOST 1048576: true; the input reads as it did. -/
def flowSafeUptoRow : OpenClaim := { program := "ytacaadhlobbemaagreatdoor", sum := "deba55ec3766791632903ea8f116c81f5e2445b2a3763e6559d279442b824806", func := "bipole/bipolelaw05.FlowSafe", spec := "flowSafe", inPlace := ["internal/abi.NoEscape", "internal/bytealg.MakeNoZero"], unfollowed := true, recurses := true, named := ["internal/strconv.uint64pow10", "math/bits.deBruijn32tab", "math/bits.deBruijn64tab"], apart := false, laid := [("math/bits.deBruijn32tab", laid_math_bits_deBruijn32tab), ("math/bits.deBruijn64tab", laid_math_bits_deBruijn64tab), ("internal/strconv.uint64pow10", laid_internal_strconv_uint64pow10)], narrowed := true }
def FlowSafeUptoSaid : Prop := flowSafeUptoRow.holds Tryz.pinned (OpenSpec.upto flowSafeSpec)

/-- 'bipolelaw05.FlowTexts', WHERE WHAT IT READS IS OF BULK AT MOST 1048576: true; the input reads as it did. -/
def flowTextsUptoRow : OpenClaim := { program := "ytacaadhlobbemaagreatdoor", sum := "deba55ec3766791632903ea8f116c81f5e2445b2a3763e6559d279442b824806", func := "bipole/bipolelaw05.FlowTexts", spec := "flowTexts", inPlace := ["internal/abi.NoEscape", "internal/bytealg.MakeNoZero", "internal/bytealg.IndexByteString", "internal/bytealg.CountString", "internal/bytealg.IndexString"], unfollowed := true, recurses := true, named := ["internal/strconv.uint64pow10", "math/bits.deBruijn32tab", "math/bits.deBruijn64tab", "unicode/utf8.first", "unicode/utf8.acceptRanges", "internal/bytealg.MaxLen", "strconv.ErrSyntax", "strconv.ErrRange"], apart := false, laid := [("math/bits.deBruijn32tab", laid_math_bits_deBruijn32tab), ("math/bits.deBruijn64tab", laid_math_bits_deBruijn64tab), ("internal/strconv.uint64pow10", laid_internal_strconv_uint64pow10), ("unicode/utf8.acceptRanges", laid_unicode_utf8_acceptRanges), ("strconv.ErrRange", laid_strconv_ErrRange), ("strconv.ErrSyntax", laid_strconv_ErrSyntax), ("unicode/utf8.first", laid_unicode_utf8_first)], narrowed := true }
def FlowTextsUptoSaid : Prop := flowTextsUptoRow.holds Tryz.pinned (OpenSpec.upto flowTextsSpec)

/-- 'bipolelaw05.FlowBack', WHERE WHAT IT READS IS OF BULK AT MOST 1048576: true; the input reads as it did. -/
def flowBackUptoRow : OpenClaim := { program := "ytacaadhlobbemaagreatdoor", sum := "deba55ec3766791632903ea8f116c81f5e2445b2a3763e6559d279442b824806", func := "bipole/bipolelaw05.FlowBack", spec := "flowBack", inPlace := ["internal/abi.NoEscape", "internal/bytealg.MakeNoZero", "internal/bytealg.IndexByteString", "internal/bytealg.CountString", "internal/bytealg.IndexString"], unfollowed := true, recurses := true, named := ["internal/strconv.uint64pow10", "math/bits.deBruijn32tab", "math/bits.deBruijn64tab", "unicode/utf8.first", "unicode/utf8.acceptRanges", "internal/bytealg.MaxLen", "strconv.ErrSyntax", "strconv.ErrRange"], apart := false, laid := [("math/bits.deBruijn32tab", laid_math_bits_deBruijn32tab), ("math/bits.deBruijn64tab", laid_math_bits_deBruijn64tab), ("internal/strconv.uint64pow10", laid_internal_strconv_uint64pow10), ("unicode/utf8.acceptRanges", laid_unicode_utf8_acceptRanges), ("strconv.ErrRange", laid_strconv_ErrRange), ("strconv.ErrSyntax", laid_strconv_ErrSyntax), ("unicode/utf8.first", laid_unicode_utf8_first)], narrowed := true }
def FlowBackUptoSaid : Prop := flowBackUptoRow.holds Tryz.pinned (OpenSpec.upto flowBackSpec)

end Rows
end Go.Proofs.YtacaadhlobbemaaGreatDoor
