/-
  NARROWER THAN 'FOR EVERY INPUT', by the rows' own cells (each row's printed sentence says how): NightSpans: laid · NightCounts: laid · NightRespite: laid · NightCases: laid · NightValid: laid · NightPlans: laid · NightBounds: laid · NightEscapes: laid · NightParts: laid · NightRests: laid · NightBest: laid · NightStrings: laid · NightBack: laid.
  DERIVED. THE GIVEN ROWS OF THIS SEAT. 13 by the template 'for every input the law returns true; each argument reads behind the call as it read before'; 0 by the template 'total and deterministic' (their statements: YtimgfogakgakhaaGreatDoorTotals.lean).
  GIVEN WITH THE SEED: the statements are not yours to turn. If you find one false, say at which input.
  Laid BY PROGRAM, IN A SANDBOX (cutbox-rows.mjs): the forced cells as the released guide's own fill.sh prints them over the translation f962f5f6bc3aa649… (all of the seat's roots in one cut). By AI agents, Wed Nov 11 2026. No macro, syntax, notation, axiom, sorry.
-/
import Derived.Test.YtimgfogakgakhaaGreatDoorChecked
import GoSem.PinnedTables
import GoSem.Claim
import GoSem.ClaimJoined
import GoSem.ClaimMapViews
import Derived.JoinedTies
import Derived.KernelRfl
namespace Go.Proofs.YtimgfogakgakhaaGreatDoor
/- THE CELL 'sum', in the pinned program and in every row, IS THE sha256 OF THE DUMP (.gsa) THAT YtimgfogakgakhaaGreatDoorProg.lean LOADS. Nothing in Lean hashes anything: it is a label: what it is worth is what the hold of that sum in a sandbox is worth. -/
noncomputable def Tryz.pinned : Pinned := { name := "ytimgfogakgakhaagreatdoor", sum := "f962f5f6bc3aa649e7b36b9dad199779722849a75b8c54443499cf67deabaeb1", checked := Tryz.checked }
namespace Rows
def none {H : Type} : Left H := { results := [], args := [] }

/- WHAT THE LISTED PACKAGE-LEVEL VARIABLES READ AS WHEN THE CALL BEGINS. Each datum BY PROGRAM (the guide's laid-datum.mjs) off the statement by which the dump's own 'gosem.cut.vars' lays the variable. In a bare row this is a premise. The card (YtimgfogakgakhaaGreatDoorCards.lean) ties it to the program's text. -/
def laid_math_bits_deBruijn32tab {H : Type} : DataW H := .agg [.lit (.int .u8 0), .lit (.int .u8 1), .lit (.int .u8 28), .lit (.int .u8 2), .lit (.int .u8 29), .lit (.int .u8 14), .lit (.int .u8 24), .lit (.int .u8 3), .lit (.int .u8 30), .lit (.int .u8 22), .lit (.int .u8 20), .lit (.int .u8 15), .lit (.int .u8 25), .lit (.int .u8 17), .lit (.int .u8 4), .lit (.int .u8 8), .lit (.int .u8 31), .lit (.int .u8 27), .lit (.int .u8 13), .lit (.int .u8 23), .lit (.int .u8 21), .lit (.int .u8 19), .lit (.int .u8 16), .lit (.int .u8 7), .lit (.int .u8 26), .lit (.int .u8 12), .lit (.int .u8 18), .lit (.int .u8 6), .lit (.int .u8 11), .lit (.int .u8 5), .lit (.int .u8 10), .lit (.int .u8 9)]
def laid_math_bits_deBruijn64tab {H : Type} : DataW H := .agg [.lit (.int .u8 0), .lit (.int .u8 1), .lit (.int .u8 56), .lit (.int .u8 2), .lit (.int .u8 57), .lit (.int .u8 49), .lit (.int .u8 28), .lit (.int .u8 3), .lit (.int .u8 61), .lit (.int .u8 58), .lit (.int .u8 42), .lit (.int .u8 50), .lit (.int .u8 38), .lit (.int .u8 29), .lit (.int .u8 17), .lit (.int .u8 4), .lit (.int .u8 62), .lit (.int .u8 47), .lit (.int .u8 59), .lit (.int .u8 36), .lit (.int .u8 45), .lit (.int .u8 43), .lit (.int .u8 51), .lit (.int .u8 22), .lit (.int .u8 53), .lit (.int .u8 39), .lit (.int .u8 33), .lit (.int .u8 30), .lit (.int .u8 24), .lit (.int .u8 18), .lit (.int .u8 12), .lit (.int .u8 5), .lit (.int .u8 63), .lit (.int .u8 55), .lit (.int .u8 48), .lit (.int .u8 27), .lit (.int .u8 60), .lit (.int .u8 41), .lit (.int .u8 37), .lit (.int .u8 16), .lit (.int .u8 46), .lit (.int .u8 35), .lit (.int .u8 44), .lit (.int .u8 21), .lit (.int .u8 52), .lit (.int .u8 32), .lit (.int .u8 23), .lit (.int .u8 11), .lit (.int .u8 54), .lit (.int .u8 26), .lit (.int .u8 40), .lit (.int .u8 15), .lit (.int .u8 34), .lit (.int .u8 20), .lit (.int .u8 31), .lit (.int .u8 10), .lit (.int .u8 25), .lit (.int .u8 14), .lit (.int .u8 19), .lit (.int .u8 9), .lit (.int .u8 13), .lit (.int .u8 8), .lit (.int .u8 7), .lit (.int .u8 6)]
def laid_internal_strconv_uint64pow10 {H : Type} : DataW H := .agg [.lit (.int .u64 1), .lit (.int .u64 10), .lit (.int .u64 100), .lit (.int .u64 1000), .lit (.int .u64 10000), .lit (.int .u64 100000), .lit (.int .u64 1000000), .lit (.int .u64 10000000), .lit (.int .u64 100000000), .lit (.int .u64 1000000000), .lit (.int .u64 10000000000), .lit (.int .u64 100000000000), .lit (.int .u64 1000000000000), .lit (.int .u64 10000000000000), .lit (.int .u64 100000000000000), .lit (.int .u64 1000000000000000), .lit (.int .u64 10000000000000000), .lit (.int .u64 100000000000000000), .lit (.int .u64 1000000000000000000), .lit (.int .u64 10000000000000000000)]
def laid_flyover_night_wrongs {H : Type} : DataW H := .agg [.lit (.string [114, 101, 97, 115, 111, 110]), .lit (.string [101, 97, 114, 108, 121]), .lit (.string [108, 97, 116, 101]), .lit (.string [101, 118, 105, 100, 101, 110, 99, 101])]
def laid_unicode_utf8_acceptRanges {H : Type} : DataW H := .agg [.agg [.lit (.int .u8 128), .lit (.int .u8 191)], .agg [.lit (.int .u8 160), .lit (.int .u8 191)], .agg [.lit (.int .u8 128), .lit (.int .u8 159)], .agg [.lit (.int .u8 144), .lit (.int .u8 191)], .agg [.lit (.int .u8 128), .lit (.int .u8 143)], .agg [.lit (.int .u8 0), .lit (.int .u8 0)], .agg [.lit (.int .u8 0), .lit (.int .u8 0)], .agg [.lit (.int .u8 0), .lit (.int .u8 0)], .agg [.lit (.int .u8 0), .lit (.int .u8 0)], .agg [.lit (.int .u8 0), .lit (.int .u8 0)], .agg [.lit (.int .u8 0), .lit (.int .u8 0)], .agg [.lit (.int .u8 0), .lit (.int .u8 0)], .agg [.lit (.int .u8 0), .lit (.int .u8 0)], .agg [.lit (.int .u8 0), .lit (.int .u8 0)], .agg [.lit (.int .u8 0), .lit (.int .u8 0)], .agg [.lit (.int .u8 0), .lit (.int .u8 0)]]
/-- One of Go's own tables, pinned by name: the form's constant. -/
def laid_unicode_utf8_first : DataW Unit := Go.Pinned.utf8First

/-- 'flyoverlaw07.NightSpans': WHATEVER THE INPUT: true; the input reads as it did. -/
def nightSpansSpec : ChangeSpec := { name := "nightSpans", fn := fun _ => fun
  | [d1, d2, d3] => { results := [.lit (.bool true)], args := [d1, d2, d3] }
  | _ => none }
def nightSpansRow : OpenClaim := { program := "ytimgfogakgakhaagreatdoor", sum := "f962f5f6bc3aa649e7b36b9dad199779722849a75b8c54443499cf67deabaeb1", func := "flyover/flyoverlaw07.NightSpans", spec := "nightSpans", inPlace := ["internal/abi.NoEscape", "internal/bytealg.MakeNoZero"], unfollowed := true, recurses := true, named := ["flyover/night.wrongs", "internal/strconv.uint64pow10", "math/bits.deBruijn32tab", "math/bits.deBruijn64tab"], apart := false, laid := [("math/bits.deBruijn32tab", laid_math_bits_deBruijn32tab), ("math/bits.deBruijn64tab", laid_math_bits_deBruijn64tab), ("internal/strconv.uint64pow10", laid_internal_strconv_uint64pow10), ("flyover/night.wrongs", laid_flyover_night_wrongs)] }
def NightSpansSaid : Prop := nightSpansRow.holds Tryz.pinned (OpenSpec.ofChange nightSpansSpec)

/-- ITS FALSE NEIGHBOUR: 'it returns false'. Refute it at one input. -/
def nightSpansWrong : ChangeSpec := { name := "nightSpans", fn := fun _ => fun
  | [d1, d2, d3] => { results := [.lit (.bool false)], args := [d1, d2, d3] }
  | _ => none }
def NightSpansWrongFalsely : Prop := nightSpansRow.holds Tryz.pinned (OpenSpec.ofChange nightSpansWrong)

/-- 'flyoverlaw07.NightCounts': WHATEVER THE INPUT: true; the input reads as it did. -/
def nightCountsSpec : ChangeSpec := { name := "nightCounts", fn := fun _ => fun
  | [d1, d2, d3] => { results := [.lit (.bool true)], args := [d1, d2, d3] }
  | _ => none }
def nightCountsRow : OpenClaim := { program := "ytimgfogakgakhaagreatdoor", sum := "f962f5f6bc3aa649e7b36b9dad199779722849a75b8c54443499cf67deabaeb1", func := "flyover/flyoverlaw07.NightCounts", spec := "nightCounts", inPlace := ["internal/abi.NoEscape", "internal/bytealg.MakeNoZero"], unfollowed := true, recurses := true, named := ["flyover/night.wrongs", "internal/strconv.uint64pow10", "math/bits.deBruijn32tab", "math/bits.deBruijn64tab"], apart := false, laid := [("math/bits.deBruijn32tab", laid_math_bits_deBruijn32tab), ("math/bits.deBruijn64tab", laid_math_bits_deBruijn64tab), ("internal/strconv.uint64pow10", laid_internal_strconv_uint64pow10), ("flyover/night.wrongs", laid_flyover_night_wrongs)] }
def NightCountsSaid : Prop := nightCountsRow.holds Tryz.pinned (OpenSpec.ofChange nightCountsSpec)

/-- ITS FALSE NEIGHBOUR: 'it returns false'. Refute it at one input. -/
def nightCountsWrong : ChangeSpec := { name := "nightCounts", fn := fun _ => fun
  | [d1, d2, d3] => { results := [.lit (.bool false)], args := [d1, d2, d3] }
  | _ => none }
def NightCountsWrongFalsely : Prop := nightCountsRow.holds Tryz.pinned (OpenSpec.ofChange nightCountsWrong)

/-- 'flyoverlaw07.NightRespite': WHATEVER THE INPUT: true; the input reads as it did. -/
def nightRespiteSpec : ChangeSpec := { name := "nightRespite", fn := fun _ => fun
  | [d1, d2, d3] => { results := [.lit (.bool true)], args := [d1, d2, d3] }
  | _ => none }
def nightRespiteRow : OpenClaim := { program := "ytimgfogakgakhaagreatdoor", sum := "f962f5f6bc3aa649e7b36b9dad199779722849a75b8c54443499cf67deabaeb1", func := "flyover/flyoverlaw07.NightRespite", spec := "nightRespite", inPlace := ["internal/abi.NoEscape", "internal/bytealg.MakeNoZero"], unfollowed := true, recurses := true, named := ["flyover/night.wrongs", "internal/strconv.uint64pow10", "math/bits.deBruijn32tab", "math/bits.deBruijn64tab"], apart := false, laid := [("math/bits.deBruijn32tab", laid_math_bits_deBruijn32tab), ("math/bits.deBruijn64tab", laid_math_bits_deBruijn64tab), ("internal/strconv.uint64pow10", laid_internal_strconv_uint64pow10), ("flyover/night.wrongs", laid_flyover_night_wrongs)] }
def NightRespiteSaid : Prop := nightRespiteRow.holds Tryz.pinned (OpenSpec.ofChange nightRespiteSpec)

/-- ITS FALSE NEIGHBOUR: 'it returns false'. Refute it at one input. -/
def nightRespiteWrong : ChangeSpec := { name := "nightRespite", fn := fun _ => fun
  | [d1, d2, d3] => { results := [.lit (.bool false)], args := [d1, d2, d3] }
  | _ => none }
def NightRespiteWrongFalsely : Prop := nightRespiteRow.holds Tryz.pinned (OpenSpec.ofChange nightRespiteWrong)

/-- 'flyoverlaw07.NightCases': WHATEVER THE INPUT: true; the input reads as it did. -/
def nightCasesSpec : ChangeSpec := { name := "nightCases", fn := fun _ => fun
  | [d1, d2, d3] => { results := [.lit (.bool true)], args := [d1, d2, d3] }
  | _ => none }
def nightCasesRow : OpenClaim := { program := "ytimgfogakgakhaagreatdoor", sum := "f962f5f6bc3aa649e7b36b9dad199779722849a75b8c54443499cf67deabaeb1", func := "flyover/flyoverlaw07.NightCases", spec := "nightCases", inPlace := ["internal/abi.NoEscape", "internal/bytealg.MakeNoZero"], unfollowed := true, recurses := true, named := ["flyover/night.wrongs", "internal/strconv.uint64pow10", "math/bits.deBruijn32tab", "math/bits.deBruijn64tab"], apart := false, laid := [("math/bits.deBruijn32tab", laid_math_bits_deBruijn32tab), ("math/bits.deBruijn64tab", laid_math_bits_deBruijn64tab), ("internal/strconv.uint64pow10", laid_internal_strconv_uint64pow10), ("flyover/night.wrongs", laid_flyover_night_wrongs)] }
def NightCasesSaid : Prop := nightCasesRow.holds Tryz.pinned (OpenSpec.ofChange nightCasesSpec)

/-- ITS FALSE NEIGHBOUR: 'it returns false'. Refute it at one input. -/
def nightCasesWrong : ChangeSpec := { name := "nightCases", fn := fun _ => fun
  | [d1, d2, d3] => { results := [.lit (.bool false)], args := [d1, d2, d3] }
  | _ => none }
def NightCasesWrongFalsely : Prop := nightCasesRow.holds Tryz.pinned (OpenSpec.ofChange nightCasesWrong)

/-- 'flyoverlaw07.NightValid': WHATEVER THE INPUT: true; the input reads as it did. -/
def nightValidSpec : ChangeSpec := { name := "nightValid", fn := fun _ => fun
  | [d1, d2, d3] => { results := [.lit (.bool true)], args := [d1, d2, d3] }
  | _ => none }
def nightValidRow : OpenClaim := { program := "ytimgfogakgakhaagreatdoor", sum := "f962f5f6bc3aa649e7b36b9dad199779722849a75b8c54443499cf67deabaeb1", func := "flyover/flyoverlaw07.NightValid", spec := "nightValid", inPlace := ["internal/abi.NoEscape", "internal/bytealg.MakeNoZero"], unfollowed := true, recurses := true, named := ["flyover/night.wrongs", "internal/strconv.uint64pow10", "math/bits.deBruijn32tab", "math/bits.deBruijn64tab"], apart := false, laid := [("math/bits.deBruijn32tab", laid_math_bits_deBruijn32tab), ("math/bits.deBruijn64tab", laid_math_bits_deBruijn64tab), ("internal/strconv.uint64pow10", laid_internal_strconv_uint64pow10), ("flyover/night.wrongs", laid_flyover_night_wrongs)] }
def NightValidSaid : Prop := nightValidRow.holds Tryz.pinned (OpenSpec.ofChange nightValidSpec)

/-- ITS FALSE NEIGHBOUR: 'it returns false'. Refute it at one input. -/
def nightValidWrong : ChangeSpec := { name := "nightValid", fn := fun _ => fun
  | [d1, d2, d3] => { results := [.lit (.bool false)], args := [d1, d2, d3] }
  | _ => none }
def NightValidWrongFalsely : Prop := nightValidRow.holds Tryz.pinned (OpenSpec.ofChange nightValidWrong)

/-- 'flyoverlaw07.NightPlans': WHATEVER THE INPUT: true; the input reads as it did. -/
def nightPlansSpec : ChangeSpec := { name := "nightPlans", fn := fun _ => fun
  | [d1, d2, d3] => { results := [.lit (.bool true)], args := [d1, d2, d3] }
  | _ => none }
def nightPlansRow : OpenClaim := { program := "ytimgfogakgakhaagreatdoor", sum := "f962f5f6bc3aa649e7b36b9dad199779722849a75b8c54443499cf67deabaeb1", func := "flyover/flyoverlaw07.NightPlans", spec := "nightPlans", inPlace := ["internal/abi.NoEscape", "internal/bytealg.MakeNoZero"], unfollowed := true, recurses := true, named := ["flyover/night.wrongs", "internal/strconv.uint64pow10", "math/bits.deBruijn32tab", "math/bits.deBruijn64tab"], apart := false, laid := [("math/bits.deBruijn32tab", laid_math_bits_deBruijn32tab), ("math/bits.deBruijn64tab", laid_math_bits_deBruijn64tab), ("internal/strconv.uint64pow10", laid_internal_strconv_uint64pow10), ("flyover/night.wrongs", laid_flyover_night_wrongs)] }
def NightPlansSaid : Prop := nightPlansRow.holds Tryz.pinned (OpenSpec.ofChange nightPlansSpec)

/-- ITS FALSE NEIGHBOUR: 'it returns false'. Refute it at one input. -/
def nightPlansWrong : ChangeSpec := { name := "nightPlans", fn := fun _ => fun
  | [d1, d2, d3] => { results := [.lit (.bool false)], args := [d1, d2, d3] }
  | _ => none }
def NightPlansWrongFalsely : Prop := nightPlansRow.holds Tryz.pinned (OpenSpec.ofChange nightPlansWrong)

/-- 'flyoverlaw07.NightBounds': WHATEVER THE INPUT: true; the input reads as it did. -/
def nightBoundsSpec : ChangeSpec := { name := "nightBounds", fn := fun _ => fun
  | [d1, d2, d3] => { results := [.lit (.bool true)], args := [d1, d2, d3] }
  | _ => none }
def nightBoundsRow : OpenClaim := { program := "ytimgfogakgakhaagreatdoor", sum := "f962f5f6bc3aa649e7b36b9dad199779722849a75b8c54443499cf67deabaeb1", func := "flyover/flyoverlaw07.NightBounds", spec := "nightBounds", inPlace := ["internal/abi.NoEscape", "internal/bytealg.MakeNoZero"], unfollowed := true, recurses := true, named := ["flyover/night.wrongs", "internal/strconv.uint64pow10", "math/bits.deBruijn32tab", "math/bits.deBruijn64tab"], apart := false, laid := [("math/bits.deBruijn32tab", laid_math_bits_deBruijn32tab), ("math/bits.deBruijn64tab", laid_math_bits_deBruijn64tab), ("internal/strconv.uint64pow10", laid_internal_strconv_uint64pow10), ("flyover/night.wrongs", laid_flyover_night_wrongs)] }
def NightBoundsSaid : Prop := nightBoundsRow.holds Tryz.pinned (OpenSpec.ofChange nightBoundsSpec)

/-- ITS FALSE NEIGHBOUR: 'it returns false'. Refute it at one input. -/
def nightBoundsWrong : ChangeSpec := { name := "nightBounds", fn := fun _ => fun
  | [d1, d2, d3] => { results := [.lit (.bool false)], args := [d1, d2, d3] }
  | _ => none }
def NightBoundsWrongFalsely : Prop := nightBoundsRow.holds Tryz.pinned (OpenSpec.ofChange nightBoundsWrong)

/-- 'flyoverlaw07.NightEscapes': WHATEVER THE INPUT: true; the input reads as it did. -/
def nightEscapesSpec : ChangeSpec := { name := "nightEscapes", fn := fun _ => fun
  | [d1, d2, d3] => { results := [.lit (.bool true)], args := [d1, d2, d3] }
  | _ => none }
def nightEscapesRow : OpenClaim := { program := "ytimgfogakgakhaagreatdoor", sum := "f962f5f6bc3aa649e7b36b9dad199779722849a75b8c54443499cf67deabaeb1", func := "flyover/flyoverlaw07.NightEscapes", spec := "nightEscapes", inPlace := ["internal/abi.NoEscape", "internal/bytealg.MakeNoZero"], unfollowed := true, recurses := true, named := ["flyover/night.wrongs", "internal/strconv.uint64pow10", "math/bits.deBruijn32tab", "math/bits.deBruijn64tab"], apart := false, laid := [("math/bits.deBruijn32tab", laid_math_bits_deBruijn32tab), ("math/bits.deBruijn64tab", laid_math_bits_deBruijn64tab), ("internal/strconv.uint64pow10", laid_internal_strconv_uint64pow10), ("flyover/night.wrongs", laid_flyover_night_wrongs)] }
def NightEscapesSaid : Prop := nightEscapesRow.holds Tryz.pinned (OpenSpec.ofChange nightEscapesSpec)

/-- ITS FALSE NEIGHBOUR: 'it returns false'. Refute it at one input. -/
def nightEscapesWrong : ChangeSpec := { name := "nightEscapes", fn := fun _ => fun
  | [d1, d2, d3] => { results := [.lit (.bool false)], args := [d1, d2, d3] }
  | _ => none }
def NightEscapesWrongFalsely : Prop := nightEscapesRow.holds Tryz.pinned (OpenSpec.ofChange nightEscapesWrong)

/-- 'flyoverlaw07.NightParts': WHATEVER THE INPUT: true; the input reads as it did. -/
def nightPartsSpec : ChangeSpec := { name := "nightParts", fn := fun _ => fun
  | [d1, d2, d3] => { results := [.lit (.bool true)], args := [d1, d2, d3] }
  | _ => none }
def nightPartsRow : OpenClaim := { program := "ytimgfogakgakhaagreatdoor", sum := "f962f5f6bc3aa649e7b36b9dad199779722849a75b8c54443499cf67deabaeb1", func := "flyover/flyoverlaw07.NightParts", spec := "nightParts", inPlace := ["internal/abi.NoEscape", "internal/bytealg.MakeNoZero"], unfollowed := true, recurses := true, named := ["flyover/night.wrongs", "internal/strconv.uint64pow10", "math/bits.deBruijn32tab", "math/bits.deBruijn64tab"], apart := false, laid := [("math/bits.deBruijn32tab", laid_math_bits_deBruijn32tab), ("math/bits.deBruijn64tab", laid_math_bits_deBruijn64tab), ("internal/strconv.uint64pow10", laid_internal_strconv_uint64pow10), ("flyover/night.wrongs", laid_flyover_night_wrongs)] }
def NightPartsSaid : Prop := nightPartsRow.holds Tryz.pinned (OpenSpec.ofChange nightPartsSpec)

/-- ITS FALSE NEIGHBOUR: 'it returns false'. Refute it at one input. -/
def nightPartsWrong : ChangeSpec := { name := "nightParts", fn := fun _ => fun
  | [d1, d2, d3] => { results := [.lit (.bool false)], args := [d1, d2, d3] }
  | _ => none }
def NightPartsWrongFalsely : Prop := nightPartsRow.holds Tryz.pinned (OpenSpec.ofChange nightPartsWrong)

/-- 'flyoverlaw07.NightRests': WHATEVER THE INPUT: true; the input reads as it did. -/
def nightRestsSpec : ChangeSpec := { name := "nightRests", fn := fun _ => fun
  | [d1, d2, d3] => { results := [.lit (.bool true)], args := [d1, d2, d3] }
  | _ => none }
def nightRestsRow : OpenClaim := { program := "ytimgfogakgakhaagreatdoor", sum := "f962f5f6bc3aa649e7b36b9dad199779722849a75b8c54443499cf67deabaeb1", func := "flyover/flyoverlaw07.NightRests", spec := "nightRests", inPlace := ["internal/abi.NoEscape", "internal/bytealg.MakeNoZero"], unfollowed := true, recurses := true, named := ["flyover/night.wrongs", "internal/strconv.uint64pow10", "math/bits.deBruijn32tab", "math/bits.deBruijn64tab"], apart := false, laid := [("math/bits.deBruijn32tab", laid_math_bits_deBruijn32tab), ("math/bits.deBruijn64tab", laid_math_bits_deBruijn64tab), ("internal/strconv.uint64pow10", laid_internal_strconv_uint64pow10), ("flyover/night.wrongs", laid_flyover_night_wrongs)] }
def NightRestsSaid : Prop := nightRestsRow.holds Tryz.pinned (OpenSpec.ofChange nightRestsSpec)

/-- ITS FALSE NEIGHBOUR: 'it returns false'. Refute it at one input. -/
def nightRestsWrong : ChangeSpec := { name := "nightRests", fn := fun _ => fun
  | [d1, d2, d3] => { results := [.lit (.bool false)], args := [d1, d2, d3] }
  | _ => none }
def NightRestsWrongFalsely : Prop := nightRestsRow.holds Tryz.pinned (OpenSpec.ofChange nightRestsWrong)

/-- 'flyoverlaw07.NightBest': WHATEVER THE INPUT: true; the input reads as it did. -/
def nightBestSpec : ChangeSpec := { name := "nightBest", fn := fun _ => fun
  | [d1, d2, d3] => { results := [.lit (.bool true)], args := [d1, d2, d3] }
  | _ => none }
def nightBestRow : OpenClaim := { program := "ytimgfogakgakhaagreatdoor", sum := "f962f5f6bc3aa649e7b36b9dad199779722849a75b8c54443499cf67deabaeb1", func := "flyover/flyoverlaw07.NightBest", spec := "nightBest", inPlace := ["internal/abi.NoEscape", "internal/bytealg.MakeNoZero"], unfollowed := true, recurses := true, named := ["flyover/night.wrongs", "internal/strconv.uint64pow10", "math/bits.deBruijn32tab", "math/bits.deBruijn64tab"], apart := false, laid := [("math/bits.deBruijn32tab", laid_math_bits_deBruijn32tab), ("math/bits.deBruijn64tab", laid_math_bits_deBruijn64tab), ("internal/strconv.uint64pow10", laid_internal_strconv_uint64pow10), ("flyover/night.wrongs", laid_flyover_night_wrongs)] }
def NightBestSaid : Prop := nightBestRow.holds Tryz.pinned (OpenSpec.ofChange nightBestSpec)

/-- ITS FALSE NEIGHBOUR: 'it returns false'. Refute it at one input. -/
def nightBestWrong : ChangeSpec := { name := "nightBest", fn := fun _ => fun
  | [d1, d2, d3] => { results := [.lit (.bool false)], args := [d1, d2, d3] }
  | _ => none }
def NightBestWrongFalsely : Prop := nightBestRow.holds Tryz.pinned (OpenSpec.ofChange nightBestWrong)

/-- 'flyoverlaw07.NightStrings': WHATEVER THE INPUT: true; the input reads as it did. -/
def nightStringsSpec : ChangeSpec := { name := "nightStrings", fn := fun _ => fun
  | [d1, d2, d3] => { results := [.lit (.bool true)], args := [d1, d2, d3] }
  | _ => none }
def nightStringsRow : OpenClaim := { program := "ytimgfogakgakhaagreatdoor", sum := "f962f5f6bc3aa649e7b36b9dad199779722849a75b8c54443499cf67deabaeb1", func := "flyover/flyoverlaw07.NightStrings", spec := "nightStrings", inPlace := ["internal/abi.NoEscape", "internal/bytealg.MakeNoZero", "internal/bytealg.IndexByteString", "internal/bytealg.CountString", "internal/bytealg.IndexString"], unfollowed := true, recurses := true, named := ["flyover/night.wrongs", "internal/strconv.uint64pow10", "math/bits.deBruijn32tab", "math/bits.deBruijn64tab", "unicode/utf8.first", "unicode/utf8.acceptRanges", "internal/bytealg.MaxLen"], apart := false, laid := [("math/bits.deBruijn32tab", laid_math_bits_deBruijn32tab), ("math/bits.deBruijn64tab", laid_math_bits_deBruijn64tab), ("internal/strconv.uint64pow10", laid_internal_strconv_uint64pow10), ("unicode/utf8.acceptRanges", laid_unicode_utf8_acceptRanges), ("flyover/night.wrongs", laid_flyover_night_wrongs), ("unicode/utf8.first", laid_unicode_utf8_first)] }
def NightStringsSaid : Prop := nightStringsRow.holds Tryz.pinned (OpenSpec.ofChange nightStringsSpec)

/-- ITS FALSE NEIGHBOUR: 'it returns false'. Refute it at one input. -/
def nightStringsWrong : ChangeSpec := { name := "nightStrings", fn := fun _ => fun
  | [d1, d2, d3] => { results := [.lit (.bool false)], args := [d1, d2, d3] }
  | _ => none }
def NightStringsWrongFalsely : Prop := nightStringsRow.holds Tryz.pinned (OpenSpec.ofChange nightStringsWrong)

/-- 'flyoverlaw07.NightBack': WHATEVER THE INPUT: true; the input reads as it did. -/
def nightBackSpec : ChangeSpec := { name := "nightBack", fn := fun _ => fun
  | [d1, d2, d3] => { results := [.lit (.bool true)], args := [d1, d2, d3] }
  | _ => none }
def nightBackRow : OpenClaim := { program := "ytimgfogakgakhaagreatdoor", sum := "f962f5f6bc3aa649e7b36b9dad199779722849a75b8c54443499cf67deabaeb1", func := "flyover/flyoverlaw07.NightBack", spec := "nightBack", inPlace := ["internal/abi.NoEscape", "internal/bytealg.MakeNoZero", "internal/bytealg.IndexByteString", "internal/bytealg.CountString", "internal/bytealg.IndexString"], unfollowed := true, recurses := true, named := ["flyover/night.wrongs", "internal/strconv.uint64pow10", "math/bits.deBruijn32tab", "math/bits.deBruijn64tab", "unicode/utf8.first", "unicode/utf8.acceptRanges", "internal/bytealg.MaxLen"], apart := false, laid := [("math/bits.deBruijn32tab", laid_math_bits_deBruijn32tab), ("math/bits.deBruijn64tab", laid_math_bits_deBruijn64tab), ("internal/strconv.uint64pow10", laid_internal_strconv_uint64pow10), ("unicode/utf8.acceptRanges", laid_unicode_utf8_acceptRanges), ("flyover/night.wrongs", laid_flyover_night_wrongs), ("unicode/utf8.first", laid_unicode_utf8_first)] }
def NightBackSaid : Prop := nightBackRow.holds Tryz.pinned (OpenSpec.ofChange nightBackSpec)

/-- ITS FALSE NEIGHBOUR: 'it returns false'. Refute it at one input. -/
def nightBackWrong : ChangeSpec := { name := "nightBack", fn := fun _ => fun
  | [d1, d2, d3] => { results := [.lit (.bool false)], args := [d1, d2, d3] }
  | _ => none }
def NightBackWrongFalsely : Prop := nightBackRow.holds Tryz.pinned (OpenSpec.ofChange nightBackWrong)

/- THE SECOND FORM. 'bulk': how many values and letters a reading holds, each counted each time it is reached (what is shared counts as often as it is met; a slice's spare places count too). A statement '..UptoSaid' is the law's where the arguments, and the package variables that the reading takes, are together of bulk at most 1048576: NARROWER than '..Said'. Prove '..Said' where nothing that the law and all that it calls make is longer than what came in: it says more and counts as full. Else prove '..UptoSaid'. A law counts once. -/
mutual
def uptoBulk {H : Type} : DataW H → Nat
  | .lit (.string bytes) => bytes.length + 1
  | .lit _ => 1
  | .nil => 1
  | .ptr d => uptoBulk d + 1
  | .slice elems spare => uptoBulkAll elems + uptoBulkAll spare + 1
  | .agg parts => uptoBulkAll parts + 1
  | .iface _ d => uptoBulk d + 1
  | .map entries => uptoBulkEntries entries + 1
  | .held _ => 1
def uptoBulkAll {H : Type} : List (DataW H) → Nat
  | [] => 0
  | d :: r => uptoBulk d + uptoBulkAll r
def uptoBulkEntries {H : Type} : List (Lit × DataW H) → Nat
  | [] => 0
  | x :: r => uptoBulkEntry x + uptoBulkEntries r
def uptoBulkEntry {H : Type} : Lit × DataW H → Nat
  | (.string bytes, d) => bytes.length + uptoBulk d + 1
  | (_, d) => uptoBulk d + 1
 end
def uptoSmall : (H : Type) → List (DataW H) → Bool := fun _ ds => decide (uptoBulkAll ds ≤ 1048576)
def OpenSpec.upto (s : _root_.Go.ChangeSpec) : _root_.Go.OpenSpec := { _root_.Go.OpenSpec.ofChange s with cond := some uptoSmall }

/-- 'flyoverlaw07.NightSpans', WHERE WHAT IT READS IS OF BULK AT MOST 1048576: true; the input reads as it did. -/
def nightSpansUptoRow : OpenClaim := { program := "ytimgfogakgakhaagreatdoor", sum := "f962f5f6bc3aa649e7b36b9dad199779722849a75b8c54443499cf67deabaeb1", func := "flyover/flyoverlaw07.NightSpans", spec := "nightSpans", inPlace := ["internal/abi.NoEscape", "internal/bytealg.MakeNoZero"], unfollowed := true, recurses := true, named := ["flyover/night.wrongs", "internal/strconv.uint64pow10", "math/bits.deBruijn32tab", "math/bits.deBruijn64tab"], apart := false, laid := [("math/bits.deBruijn32tab", laid_math_bits_deBruijn32tab), ("math/bits.deBruijn64tab", laid_math_bits_deBruijn64tab), ("internal/strconv.uint64pow10", laid_internal_strconv_uint64pow10), ("flyover/night.wrongs", laid_flyover_night_wrongs)], narrowed := true }
def NightSpansUptoSaid : Prop := nightSpansUptoRow.holds Tryz.pinned (OpenSpec.upto nightSpansSpec)

/-- 'flyoverlaw07.NightCounts', WHERE WHAT IT READS IS OF BULK AT MOST 1048576: true; the input reads as it did. -/
def nightCountsUptoRow : OpenClaim := { program := "ytimgfogakgakhaagreatdoor", sum := "f962f5f6bc3aa649e7b36b9dad199779722849a75b8c54443499cf67deabaeb1", func := "flyover/flyoverlaw07.NightCounts", spec := "nightCounts", inPlace := ["internal/abi.NoEscape", "internal/bytealg.MakeNoZero"], unfollowed := true, recurses := true, named := ["flyover/night.wrongs", "internal/strconv.uint64pow10", "math/bits.deBruijn32tab", "math/bits.deBruijn64tab"], apart := false, laid := [("math/bits.deBruijn32tab", laid_math_bits_deBruijn32tab), ("math/bits.deBruijn64tab", laid_math_bits_deBruijn64tab), ("internal/strconv.uint64pow10", laid_internal_strconv_uint64pow10), ("flyover/night.wrongs", laid_flyover_night_wrongs)], narrowed := true }
def NightCountsUptoSaid : Prop := nightCountsUptoRow.holds Tryz.pinned (OpenSpec.upto nightCountsSpec)

/-- 'flyoverlaw07.NightRespite', WHERE WHAT IT READS IS OF BULK AT MOST 1048576: true; the input reads as it did. -/
def nightRespiteUptoRow : OpenClaim := { program := "ytimgfogakgakhaagreatdoor", sum := "f962f5f6bc3aa649e7b36b9dad199779722849a75b8c54443499cf67deabaeb1", func := "flyover/flyoverlaw07.NightRespite", spec := "nightRespite", inPlace := ["internal/abi.NoEscape", "internal/bytealg.MakeNoZero"], unfollowed := true, recurses := true, named := ["flyover/night.wrongs", "internal/strconv.uint64pow10", "math/bits.deBruijn32tab", "math/bits.deBruijn64tab"], apart := false, laid := [("math/bits.deBruijn32tab", laid_math_bits_deBruijn32tab), ("math/bits.deBruijn64tab", laid_math_bits_deBruijn64tab), ("internal/strconv.uint64pow10", laid_internal_strconv_uint64pow10), ("flyover/night.wrongs", laid_flyover_night_wrongs)], narrowed := true }
def NightRespiteUptoSaid : Prop := nightRespiteUptoRow.holds Tryz.pinned (OpenSpec.upto nightRespiteSpec)

/-- 'flyoverlaw07.NightCases', WHERE WHAT IT READS IS OF BULK AT MOST 1048576: true; the input reads as it did. -/
def nightCasesUptoRow : OpenClaim := { program := "ytimgfogakgakhaagreatdoor", sum := "f962f5f6bc3aa649e7b36b9dad199779722849a75b8c54443499cf67deabaeb1", func := "flyover/flyoverlaw07.NightCases", spec := "nightCases", inPlace := ["internal/abi.NoEscape", "internal/bytealg.MakeNoZero"], unfollowed := true, recurses := true, named := ["flyover/night.wrongs", "internal/strconv.uint64pow10", "math/bits.deBruijn32tab", "math/bits.deBruijn64tab"], apart := false, laid := [("math/bits.deBruijn32tab", laid_math_bits_deBruijn32tab), ("math/bits.deBruijn64tab", laid_math_bits_deBruijn64tab), ("internal/strconv.uint64pow10", laid_internal_strconv_uint64pow10), ("flyover/night.wrongs", laid_flyover_night_wrongs)], narrowed := true }
def NightCasesUptoSaid : Prop := nightCasesUptoRow.holds Tryz.pinned (OpenSpec.upto nightCasesSpec)

/-- 'flyoverlaw07.NightValid', WHERE WHAT IT READS IS OF BULK AT MOST 1048576: true; the input reads as it did. -/
def nightValidUptoRow : OpenClaim := { program := "ytimgfogakgakhaagreatdoor", sum := "f962f5f6bc3aa649e7b36b9dad199779722849a75b8c54443499cf67deabaeb1", func := "flyover/flyoverlaw07.NightValid", spec := "nightValid", inPlace := ["internal/abi.NoEscape", "internal/bytealg.MakeNoZero"], unfollowed := true, recurses := true, named := ["flyover/night.wrongs", "internal/strconv.uint64pow10", "math/bits.deBruijn32tab", "math/bits.deBruijn64tab"], apart := false, laid := [("math/bits.deBruijn32tab", laid_math_bits_deBruijn32tab), ("math/bits.deBruijn64tab", laid_math_bits_deBruijn64tab), ("internal/strconv.uint64pow10", laid_internal_strconv_uint64pow10), ("flyover/night.wrongs", laid_flyover_night_wrongs)], narrowed := true }
def NightValidUptoSaid : Prop := nightValidUptoRow.holds Tryz.pinned (OpenSpec.upto nightValidSpec)

/-- 'flyoverlaw07.NightPlans', WHERE WHAT IT READS IS OF BULK AT MOST 1048576: true; the input reads as it did. -/
def nightPlansUptoRow : OpenClaim := { program := "ytimgfogakgakhaagreatdoor", sum := "f962f5f6bc3aa649e7b36b9dad199779722849a75b8c54443499cf67deabaeb1", func := "flyover/flyoverlaw07.NightPlans", spec := "nightPlans", inPlace := ["internal/abi.NoEscape", "internal/bytealg.MakeNoZero"], unfollowed := true, recurses := true, named := ["flyover/night.wrongs", "internal/strconv.uint64pow10", "math/bits.deBruijn32tab", "math/bits.deBruijn64tab"], apart := false, laid := [("math/bits.deBruijn32tab", laid_math_bits_deBruijn32tab), ("math/bits.deBruijn64tab", laid_math_bits_deBruijn64tab), ("internal/strconv.uint64pow10", laid_internal_strconv_uint64pow10), ("flyover/night.wrongs", laid_flyover_night_wrongs)], narrowed := true }
def NightPlansUptoSaid : Prop := nightPlansUptoRow.holds Tryz.pinned (OpenSpec.upto nightPlansSpec)

/-- 'flyoverlaw07.NightBounds', WHERE WHAT IT READS IS OF BULK AT MOST 1048576: true; the input reads as it did. -/
def nightBoundsUptoRow : OpenClaim := { program := "ytimgfogakgakhaagreatdoor", sum := "f962f5f6bc3aa649e7b36b9dad199779722849a75b8c54443499cf67deabaeb1", func := "flyover/flyoverlaw07.NightBounds", spec := "nightBounds", inPlace := ["internal/abi.NoEscape", "internal/bytealg.MakeNoZero"], unfollowed := true, recurses := true, named := ["flyover/night.wrongs", "internal/strconv.uint64pow10", "math/bits.deBruijn32tab", "math/bits.deBruijn64tab"], apart := false, laid := [("math/bits.deBruijn32tab", laid_math_bits_deBruijn32tab), ("math/bits.deBruijn64tab", laid_math_bits_deBruijn64tab), ("internal/strconv.uint64pow10", laid_internal_strconv_uint64pow10), ("flyover/night.wrongs", laid_flyover_night_wrongs)], narrowed := true }
def NightBoundsUptoSaid : Prop := nightBoundsUptoRow.holds Tryz.pinned (OpenSpec.upto nightBoundsSpec)

/-- 'flyoverlaw07.NightEscapes', WHERE WHAT IT READS IS OF BULK AT MOST 1048576: true; the input reads as it did. -/
def nightEscapesUptoRow : OpenClaim := { program := "ytimgfogakgakhaagreatdoor", sum := "f962f5f6bc3aa649e7b36b9dad199779722849a75b8c54443499cf67deabaeb1", func := "flyover/flyoverlaw07.NightEscapes", spec := "nightEscapes", inPlace := ["internal/abi.NoEscape", "internal/bytealg.MakeNoZero"], unfollowed := true, recurses := true, named := ["flyover/night.wrongs", "internal/strconv.uint64pow10", "math/bits.deBruijn32tab", "math/bits.deBruijn64tab"], apart := false, laid := [("math/bits.deBruijn32tab", laid_math_bits_deBruijn32tab), ("math/bits.deBruijn64tab", laid_math_bits_deBruijn64tab), ("internal/strconv.uint64pow10", laid_internal_strconv_uint64pow10), ("flyover/night.wrongs", laid_flyover_night_wrongs)], narrowed := true }
def NightEscapesUptoSaid : Prop := nightEscapesUptoRow.holds Tryz.pinned (OpenSpec.upto nightEscapesSpec)

/-- 'flyoverlaw07.NightParts', WHERE WHAT IT READS IS OF BULK AT MOST 1048576: true; the input reads as it did. -/
def nightPartsUptoRow : OpenClaim := { program := "ytimgfogakgakhaagreatdoor", sum := "f962f5f6bc3aa649e7b36b9dad199779722849a75b8c54443499cf67deabaeb1", func := "flyover/flyoverlaw07.NightParts", spec := "nightParts", inPlace := ["internal/abi.NoEscape", "internal/bytealg.MakeNoZero"], unfollowed := true, recurses := true, named := ["flyover/night.wrongs", "internal/strconv.uint64pow10", "math/bits.deBruijn32tab", "math/bits.deBruijn64tab"], apart := false, laid := [("math/bits.deBruijn32tab", laid_math_bits_deBruijn32tab), ("math/bits.deBruijn64tab", laid_math_bits_deBruijn64tab), ("internal/strconv.uint64pow10", laid_internal_strconv_uint64pow10), ("flyover/night.wrongs", laid_flyover_night_wrongs)], narrowed := true }
def NightPartsUptoSaid : Prop := nightPartsUptoRow.holds Tryz.pinned (OpenSpec.upto nightPartsSpec)

/-- 'flyoverlaw07.NightRests', WHERE WHAT IT READS IS OF BULK AT MOST 1048576: true; the input reads as it did. -/
def nightRestsUptoRow : OpenClaim := { program := "ytimgfogakgakhaagreatdoor", sum := "f962f5f6bc3aa649e7b36b9dad199779722849a75b8c54443499cf67deabaeb1", func := "flyover/flyoverlaw07.NightRests", spec := "nightRests", inPlace := ["internal/abi.NoEscape", "internal/bytealg.MakeNoZero"], unfollowed := true, recurses := true, named := ["flyover/night.wrongs", "internal/strconv.uint64pow10", "math/bits.deBruijn32tab", "math/bits.deBruijn64tab"], apart := false, laid := [("math/bits.deBruijn32tab", laid_math_bits_deBruijn32tab), ("math/bits.deBruijn64tab", laid_math_bits_deBruijn64tab), ("internal/strconv.uint64pow10", laid_internal_strconv_uint64pow10), ("flyover/night.wrongs", laid_flyover_night_wrongs)], narrowed := true }
def NightRestsUptoSaid : Prop := nightRestsUptoRow.holds Tryz.pinned (OpenSpec.upto nightRestsSpec)

/-- 'flyoverlaw07.NightBest', WHERE WHAT IT READS IS OF BULK AT MOST 1048576: true; the input reads as it did. -/
def nightBestUptoRow : OpenClaim := { program := "ytimgfogakgakhaagreatdoor", sum := "f962f5f6bc3aa649e7b36b9dad199779722849a75b8c54443499cf67deabaeb1", func := "flyover/flyoverlaw07.NightBest", spec := "nightBest", inPlace := ["internal/abi.NoEscape", "internal/bytealg.MakeNoZero"], unfollowed := true, recurses := true, named := ["flyover/night.wrongs", "internal/strconv.uint64pow10", "math/bits.deBruijn32tab", "math/bits.deBruijn64tab"], apart := false, laid := [("math/bits.deBruijn32tab", laid_math_bits_deBruijn32tab), ("math/bits.deBruijn64tab", laid_math_bits_deBruijn64tab), ("internal/strconv.uint64pow10", laid_internal_strconv_uint64pow10), ("flyover/night.wrongs", laid_flyover_night_wrongs)], narrowed := true }
def NightBestUptoSaid : Prop := nightBestUptoRow.holds Tryz.pinned (OpenSpec.upto nightBestSpec)

/-- 'flyoverlaw07.NightStrings', WHERE WHAT IT READS IS OF BULK AT MOST 1048576: true; the input reads as it did. -/
def nightStringsUptoRow : OpenClaim := { program := "ytimgfogakgakhaagreatdoor", sum := "f962f5f6bc3aa649e7b36b9dad199779722849a75b8c54443499cf67deabaeb1", func := "flyover/flyoverlaw07.NightStrings", spec := "nightStrings", inPlace := ["internal/abi.NoEscape", "internal/bytealg.MakeNoZero", "internal/bytealg.IndexByteString", "internal/bytealg.CountString", "internal/bytealg.IndexString"], unfollowed := true, recurses := true, named := ["flyover/night.wrongs", "internal/strconv.uint64pow10", "math/bits.deBruijn32tab", "math/bits.deBruijn64tab", "unicode/utf8.first", "unicode/utf8.acceptRanges", "internal/bytealg.MaxLen"], apart := false, laid := [("math/bits.deBruijn32tab", laid_math_bits_deBruijn32tab), ("math/bits.deBruijn64tab", laid_math_bits_deBruijn64tab), ("internal/strconv.uint64pow10", laid_internal_strconv_uint64pow10), ("unicode/utf8.acceptRanges", laid_unicode_utf8_acceptRanges), ("flyover/night.wrongs", laid_flyover_night_wrongs), ("unicode/utf8.first", laid_unicode_utf8_first)], narrowed := true }
def NightStringsUptoSaid : Prop := nightStringsUptoRow.holds Tryz.pinned (OpenSpec.upto nightStringsSpec)

/-- 'flyoverlaw07.NightBack', WHERE WHAT IT READS IS OF BULK AT MOST 1048576: true; the input reads as it did. -/
def nightBackUptoRow : OpenClaim := { program := "ytimgfogakgakhaagreatdoor", sum := "f962f5f6bc3aa649e7b36b9dad199779722849a75b8c54443499cf67deabaeb1", func := "flyover/flyoverlaw07.NightBack", spec := "nightBack", inPlace := ["internal/abi.NoEscape", "internal/bytealg.MakeNoZero", "internal/bytealg.IndexByteString", "internal/bytealg.CountString", "internal/bytealg.IndexString"], unfollowed := true, recurses := true, named := ["flyover/night.wrongs", "internal/strconv.uint64pow10", "math/bits.deBruijn32tab", "math/bits.deBruijn64tab", "unicode/utf8.first", "unicode/utf8.acceptRanges", "internal/bytealg.MaxLen"], apart := false, laid := [("math/bits.deBruijn32tab", laid_math_bits_deBruijn32tab), ("math/bits.deBruijn64tab", laid_math_bits_deBruijn64tab), ("internal/strconv.uint64pow10", laid_internal_strconv_uint64pow10), ("unicode/utf8.acceptRanges", laid_unicode_utf8_acceptRanges), ("flyover/night.wrongs", laid_flyover_night_wrongs), ("unicode/utf8.first", laid_unicode_utf8_first)], narrowed := true }
def NightBackUptoSaid : Prop := nightBackUptoRow.holds Tryz.pinned (OpenSpec.upto nightBackSpec)

end Rows
end Go.Proofs.YtimgfogakgakhaaGreatDoor
