/-
  NARROWER THAN 'FOR EVERY INPUT', by the rows' own cells (each row's printed sentence says how): HomeWindows: laid · HomeWorks: laid · HomeZones: laid · HomeOffers: laid · HomeFunds: laid · HomeComplaints: laid · HomeStrings: laid · HomeLeast: laid · HomeOnce: laid · HomeNear: laid · HomeQuiet: laid.
  DERIVED. THE GIVEN ROWS OF THIS SEAT. 11 by the template 'for every input the law returns true; each argument reads behind the call as it read before'; 0 by the template 'total and deterministic' (their statements: YtfoeefaamjknpaaGreatDoorTotals.lean).
  GIVEN WITH THE SEED: the statements are not yours to turn. If you find one false, say at which input.
  Laid BY PROGRAM, IN A SANDBOX (cutbox-rows.mjs): the forced cells as the released guide's own fill.sh prints them over the translation a65bf5df63cdc7e1… (all of the seat's roots in one cut). By AI agents, Wed Nov 11 2026. No macro, syntax, notation, axiom, sorry.
-/
import Derived.Test.YtfoeefaamjknpaaGreatDoorChecked
import GoSem.PinnedTables
import GoSem.Claim
import GoSem.ClaimJoined
import GoSem.ClaimMapViews
import Derived.JoinedTies
import Derived.KernelRfl
namespace Go.Proofs.YtfoeefaamjknpaaGreatDoor
/- THE CELL 'sum', in the pinned program and in every row, IS THE sha256 OF THE DUMP (.gsa) THAT YtfoeefaamjknpaaGreatDoorProg.lean LOADS. Nothing in Lean hashes anything: it is a label: what it is worth is what the hold of that sum in a sandbox is worth. -/
noncomputable def Tryz.pinned : Pinned := { name := "ytfoeefaamjknpaagreatdoor", sum := "a65bf5df63cdc7e1566e9e7be48f54c88905fd423243a75414e28f2c0974a07b", checked := Tryz.checked }
namespace Rows
def none {H : Type} : Left H := { results := [], args := [] }

/- WHAT THE LISTED PACKAGE-LEVEL VARIABLES READ AS WHEN THE CALL BEGINS. Each datum BY PROGRAM (the guide's laid-datum.mjs) off the statement by which the dump's own 'gosem.cut.vars' lays the variable. In a bare row this is a premise. The card (YtfoeefaamjknpaaGreatDoorCards.lean) ties it to the program's text. -/
def laid_math_bits_deBruijn32tab {H : Type} : DataW H := .agg [.lit (.int .u8 0), .lit (.int .u8 1), .lit (.int .u8 28), .lit (.int .u8 2), .lit (.int .u8 29), .lit (.int .u8 14), .lit (.int .u8 24), .lit (.int .u8 3), .lit (.int .u8 30), .lit (.int .u8 22), .lit (.int .u8 20), .lit (.int .u8 15), .lit (.int .u8 25), .lit (.int .u8 17), .lit (.int .u8 4), .lit (.int .u8 8), .lit (.int .u8 31), .lit (.int .u8 27), .lit (.int .u8 13), .lit (.int .u8 23), .lit (.int .u8 21), .lit (.int .u8 19), .lit (.int .u8 16), .lit (.int .u8 7), .lit (.int .u8 26), .lit (.int .u8 12), .lit (.int .u8 18), .lit (.int .u8 6), .lit (.int .u8 11), .lit (.int .u8 5), .lit (.int .u8 10), .lit (.int .u8 9)]
def laid_math_bits_deBruijn64tab {H : Type} : DataW H := .agg [.lit (.int .u8 0), .lit (.int .u8 1), .lit (.int .u8 56), .lit (.int .u8 2), .lit (.int .u8 57), .lit (.int .u8 49), .lit (.int .u8 28), .lit (.int .u8 3), .lit (.int .u8 61), .lit (.int .u8 58), .lit (.int .u8 42), .lit (.int .u8 50), .lit (.int .u8 38), .lit (.int .u8 29), .lit (.int .u8 17), .lit (.int .u8 4), .lit (.int .u8 62), .lit (.int .u8 47), .lit (.int .u8 59), .lit (.int .u8 36), .lit (.int .u8 45), .lit (.int .u8 43), .lit (.int .u8 51), .lit (.int .u8 22), .lit (.int .u8 53), .lit (.int .u8 39), .lit (.int .u8 33), .lit (.int .u8 30), .lit (.int .u8 24), .lit (.int .u8 18), .lit (.int .u8 12), .lit (.int .u8 5), .lit (.int .u8 63), .lit (.int .u8 55), .lit (.int .u8 48), .lit (.int .u8 27), .lit (.int .u8 60), .lit (.int .u8 41), .lit (.int .u8 37), .lit (.int .u8 16), .lit (.int .u8 46), .lit (.int .u8 35), .lit (.int .u8 44), .lit (.int .u8 21), .lit (.int .u8 52), .lit (.int .u8 32), .lit (.int .u8 23), .lit (.int .u8 11), .lit (.int .u8 54), .lit (.int .u8 26), .lit (.int .u8 40), .lit (.int .u8 15), .lit (.int .u8 34), .lit (.int .u8 20), .lit (.int .u8 31), .lit (.int .u8 10), .lit (.int .u8 25), .lit (.int .u8 14), .lit (.int .u8 19), .lit (.int .u8 9), .lit (.int .u8 13), .lit (.int .u8 8), .lit (.int .u8 7), .lit (.int .u8 6)]
def laid_internal_strconv_uint64pow10 {H : Type} : DataW H := .agg [.lit (.int .u64 1), .lit (.int .u64 10), .lit (.int .u64 100), .lit (.int .u64 1000), .lit (.int .u64 10000), .lit (.int .u64 100000), .lit (.int .u64 1000000), .lit (.int .u64 10000000), .lit (.int .u64 100000000), .lit (.int .u64 1000000000), .lit (.int .u64 10000000000), .lit (.int .u64 100000000000), .lit (.int .u64 1000000000000), .lit (.int .u64 10000000000000), .lit (.int .u64 100000000000000), .lit (.int .u64 1000000000000000), .lit (.int .u64 10000000000000000), .lit (.int .u64 100000000000000000), .lit (.int .u64 1000000000000000000), .lit (.int .u64 10000000000000000000)]
def laid_unicode_utf8_acceptRanges {H : Type} : DataW H := .agg [.agg [.lit (.int .u8 128), .lit (.int .u8 191)], .agg [.lit (.int .u8 160), .lit (.int .u8 191)], .agg [.lit (.int .u8 128), .lit (.int .u8 159)], .agg [.lit (.int .u8 144), .lit (.int .u8 191)], .agg [.lit (.int .u8 128), .lit (.int .u8 143)], .agg [.lit (.int .u8 0), .lit (.int .u8 0)], .agg [.lit (.int .u8 0), .lit (.int .u8 0)], .agg [.lit (.int .u8 0), .lit (.int .u8 0)], .agg [.lit (.int .u8 0), .lit (.int .u8 0)], .agg [.lit (.int .u8 0), .lit (.int .u8 0)], .agg [.lit (.int .u8 0), .lit (.int .u8 0)], .agg [.lit (.int .u8 0), .lit (.int .u8 0)], .agg [.lit (.int .u8 0), .lit (.int .u8 0)], .agg [.lit (.int .u8 0), .lit (.int .u8 0)], .agg [.lit (.int .u8 0), .lit (.int .u8 0)], .agg [.lit (.int .u8 0), .lit (.int .u8 0)]]
def laid_flyover_sound_base {H : Type} : DataW H := .agg [.lit (.int .i64 10), .lit (.int .i64 13), .lit (.int .i64 16), .lit (.int .i64 20), .lit (.int .i64 25), .lit (.int .i64 32), .lit (.int .i64 40), .lit (.int .i64 50), .lit (.int .i64 63), .lit (.int .i64 79)]
def laid_flyover_home_verdicts {H : Type} : DataW H := .agg [.lit (.string [98, 101, 116, 116, 101, 114]), .lit (.string [119, 111, 114, 115, 101]), .lit (.string [97, 115, 32, 112, 108, 97, 110, 110, 101, 100])]
/-- One of Go's own tables, pinned by name: the form's constant. -/
def laid_unicode_utf8_first : DataW Unit := Go.Pinned.utf8First

/-- 'flyoverlaw08.HomeWindows': WHATEVER THE INPUT: true; the input reads as it did. -/
def homeWindowsSpec : ChangeSpec := { name := "homeWindows", fn := fun _ => fun
  | [d1, d2, d3] => { results := [.lit (.bool true)], args := [d1, d2, d3] }
  | _ => none }
def homeWindowsRow : OpenClaim := { program := "ytfoeefaamjknpaagreatdoor", sum := "a65bf5df63cdc7e1566e9e7be48f54c88905fd423243a75414e28f2c0974a07b", func := "flyover/flyoverlaw08.HomeWindows", spec := "homeWindows", inPlace := ["internal/abi.NoEscape", "internal/bytealg.MakeNoZero", "internal/bytealg.IndexByteString", "internal/bytealg.CountString", "internal/bytealg.IndexString"], unfollowed := true, recurses := true, named := ["flyover/sound.base", "flyover/home.verdicts", "internal/strconv.uint64pow10", "math/bits.deBruijn32tab", "math/bits.deBruijn64tab", "unicode/utf8.first", "unicode/utf8.acceptRanges", "internal/bytealg.MaxLen"], apart := false, laid := [("math/bits.deBruijn32tab", laid_math_bits_deBruijn32tab), ("math/bits.deBruijn64tab", laid_math_bits_deBruijn64tab), ("internal/strconv.uint64pow10", laid_internal_strconv_uint64pow10), ("unicode/utf8.acceptRanges", laid_unicode_utf8_acceptRanges), ("flyover/sound.base", laid_flyover_sound_base), ("flyover/home.verdicts", laid_flyover_home_verdicts), ("unicode/utf8.first", laid_unicode_utf8_first)] }
def HomeWindowsSaid : Prop := homeWindowsRow.holds Tryz.pinned (OpenSpec.ofChange homeWindowsSpec)

/-- ITS FALSE NEIGHBOUR: 'it returns false'. Refute it at one input. -/
def homeWindowsWrong : ChangeSpec := { name := "homeWindows", fn := fun _ => fun
  | [d1, d2, d3] => { results := [.lit (.bool false)], args := [d1, d2, d3] }
  | _ => none }
def HomeWindowsWrongFalsely : Prop := homeWindowsRow.holds Tryz.pinned (OpenSpec.ofChange homeWindowsWrong)

/-- 'flyoverlaw08.HomeWorks': WHATEVER THE INPUT: true; the input reads as it did. -/
def homeWorksSpec : ChangeSpec := { name := "homeWorks", fn := fun _ => fun
  | [d1, d2, d3] => { results := [.lit (.bool true)], args := [d1, d2, d3] }
  | _ => none }
def homeWorksRow : OpenClaim := { program := "ytfoeefaamjknpaagreatdoor", sum := "a65bf5df63cdc7e1566e9e7be48f54c88905fd423243a75414e28f2c0974a07b", func := "flyover/flyoverlaw08.HomeWorks", spec := "homeWorks", inPlace := ["internal/abi.NoEscape", "internal/bytealg.MakeNoZero", "internal/bytealg.IndexByteString", "internal/bytealg.CountString", "internal/bytealg.IndexString"], unfollowed := true, recurses := true, named := ["flyover/sound.base", "flyover/home.verdicts", "internal/strconv.uint64pow10", "math/bits.deBruijn32tab", "math/bits.deBruijn64tab", "unicode/utf8.first", "unicode/utf8.acceptRanges", "internal/bytealg.MaxLen"], apart := false, laid := [("math/bits.deBruijn32tab", laid_math_bits_deBruijn32tab), ("math/bits.deBruijn64tab", laid_math_bits_deBruijn64tab), ("internal/strconv.uint64pow10", laid_internal_strconv_uint64pow10), ("unicode/utf8.acceptRanges", laid_unicode_utf8_acceptRanges), ("flyover/sound.base", laid_flyover_sound_base), ("flyover/home.verdicts", laid_flyover_home_verdicts), ("unicode/utf8.first", laid_unicode_utf8_first)] }
def HomeWorksSaid : Prop := homeWorksRow.holds Tryz.pinned (OpenSpec.ofChange homeWorksSpec)

/-- ITS FALSE NEIGHBOUR: 'it returns false'. Refute it at one input. -/
def homeWorksWrong : ChangeSpec := { name := "homeWorks", fn := fun _ => fun
  | [d1, d2, d3] => { results := [.lit (.bool false)], args := [d1, d2, d3] }
  | _ => none }
def HomeWorksWrongFalsely : Prop := homeWorksRow.holds Tryz.pinned (OpenSpec.ofChange homeWorksWrong)

/-- 'flyoverlaw08.HomeZones': WHATEVER THE INPUT: true; the input reads as it did. -/
def homeZonesSpec : ChangeSpec := { name := "homeZones", fn := fun _ => fun
  | [d1, d2, d3] => { results := [.lit (.bool true)], args := [d1, d2, d3] }
  | _ => none }
def homeZonesRow : OpenClaim := { program := "ytfoeefaamjknpaagreatdoor", sum := "a65bf5df63cdc7e1566e9e7be48f54c88905fd423243a75414e28f2c0974a07b", func := "flyover/flyoverlaw08.HomeZones", spec := "homeZones", inPlace := ["internal/abi.NoEscape", "internal/bytealg.MakeNoZero", "internal/bytealg.IndexByteString", "internal/bytealg.CountString", "internal/bytealg.IndexString"], unfollowed := true, recurses := true, named := ["flyover/sound.base", "flyover/home.verdicts", "internal/strconv.uint64pow10", "math/bits.deBruijn32tab", "math/bits.deBruijn64tab", "unicode/utf8.first", "unicode/utf8.acceptRanges", "internal/bytealg.MaxLen"], apart := false, laid := [("math/bits.deBruijn32tab", laid_math_bits_deBruijn32tab), ("math/bits.deBruijn64tab", laid_math_bits_deBruijn64tab), ("internal/strconv.uint64pow10", laid_internal_strconv_uint64pow10), ("unicode/utf8.acceptRanges", laid_unicode_utf8_acceptRanges), ("flyover/sound.base", laid_flyover_sound_base), ("flyover/home.verdicts", laid_flyover_home_verdicts), ("unicode/utf8.first", laid_unicode_utf8_first)] }
def HomeZonesSaid : Prop := homeZonesRow.holds Tryz.pinned (OpenSpec.ofChange homeZonesSpec)

/-- ITS FALSE NEIGHBOUR: 'it returns false'. Refute it at one input. -/
def homeZonesWrong : ChangeSpec := { name := "homeZones", fn := fun _ => fun
  | [d1, d2, d3] => { results := [.lit (.bool false)], args := [d1, d2, d3] }
  | _ => none }
def HomeZonesWrongFalsely : Prop := homeZonesRow.holds Tryz.pinned (OpenSpec.ofChange homeZonesWrong)

/-- 'flyoverlaw08.HomeOffers': WHATEVER THE INPUT: true; the input reads as it did. -/
def homeOffersSpec : ChangeSpec := { name := "homeOffers", fn := fun _ => fun
  | [d1, d2, d3] => { results := [.lit (.bool true)], args := [d1, d2, d3] }
  | _ => none }
def homeOffersRow : OpenClaim := { program := "ytfoeefaamjknpaagreatdoor", sum := "a65bf5df63cdc7e1566e9e7be48f54c88905fd423243a75414e28f2c0974a07b", func := "flyover/flyoverlaw08.HomeOffers", spec := "homeOffers", inPlace := ["internal/abi.NoEscape", "internal/bytealg.MakeNoZero", "internal/bytealg.IndexByteString", "internal/bytealg.CountString", "internal/bytealg.IndexString"], unfollowed := true, recurses := true, named := ["flyover/sound.base", "flyover/home.verdicts", "internal/strconv.uint64pow10", "math/bits.deBruijn32tab", "math/bits.deBruijn64tab", "unicode/utf8.first", "unicode/utf8.acceptRanges", "internal/bytealg.MaxLen"], apart := false, laid := [("math/bits.deBruijn32tab", laid_math_bits_deBruijn32tab), ("math/bits.deBruijn64tab", laid_math_bits_deBruijn64tab), ("internal/strconv.uint64pow10", laid_internal_strconv_uint64pow10), ("unicode/utf8.acceptRanges", laid_unicode_utf8_acceptRanges), ("flyover/sound.base", laid_flyover_sound_base), ("flyover/home.verdicts", laid_flyover_home_verdicts), ("unicode/utf8.first", laid_unicode_utf8_first)] }
def HomeOffersSaid : Prop := homeOffersRow.holds Tryz.pinned (OpenSpec.ofChange homeOffersSpec)

/-- ITS FALSE NEIGHBOUR: 'it returns false'. Refute it at one input. -/
def homeOffersWrong : ChangeSpec := { name := "homeOffers", fn := fun _ => fun
  | [d1, d2, d3] => { results := [.lit (.bool false)], args := [d1, d2, d3] }
  | _ => none }
def HomeOffersWrongFalsely : Prop := homeOffersRow.holds Tryz.pinned (OpenSpec.ofChange homeOffersWrong)

/-- 'flyoverlaw08.HomeFunds': WHATEVER THE INPUT: true; the input reads as it did. -/
def homeFundsSpec : ChangeSpec := { name := "homeFunds", fn := fun _ => fun
  | [d] => { results := [.lit (.bool true)], args := [d] }
  | _ => none }
def homeFundsRow : OpenClaim := { program := "ytfoeefaamjknpaagreatdoor", sum := "a65bf5df63cdc7e1566e9e7be48f54c88905fd423243a75414e28f2c0974a07b", func := "flyover/flyoverlaw08.HomeFunds", spec := "homeFunds", inPlace := ["internal/abi.NoEscape", "internal/bytealg.MakeNoZero", "internal/bytealg.IndexByteString", "internal/bytealg.CountString", "internal/bytealg.IndexString"], unfollowed := true, recurses := true, named := ["flyover/sound.base", "flyover/home.verdicts", "internal/strconv.uint64pow10", "math/bits.deBruijn32tab", "math/bits.deBruijn64tab", "unicode/utf8.first", "unicode/utf8.acceptRanges", "internal/bytealg.MaxLen"], apart := false, laid := [("math/bits.deBruijn32tab", laid_math_bits_deBruijn32tab), ("math/bits.deBruijn64tab", laid_math_bits_deBruijn64tab), ("internal/strconv.uint64pow10", laid_internal_strconv_uint64pow10), ("unicode/utf8.acceptRanges", laid_unicode_utf8_acceptRanges), ("flyover/sound.base", laid_flyover_sound_base), ("flyover/home.verdicts", laid_flyover_home_verdicts), ("unicode/utf8.first", laid_unicode_utf8_first)] }
def HomeFundsSaid : Prop := homeFundsRow.holds Tryz.pinned (OpenSpec.ofChange homeFundsSpec)

/-- ITS FALSE NEIGHBOUR: 'it returns false'. Refute it at one input. -/
def homeFundsWrong : ChangeSpec := { name := "homeFunds", fn := fun _ => fun
  | [d] => { results := [.lit (.bool false)], args := [d] }
  | _ => none }
def HomeFundsWrongFalsely : Prop := homeFundsRow.holds Tryz.pinned (OpenSpec.ofChange homeFundsWrong)

/-- 'flyoverlaw08.HomeComplaints': WHATEVER THE INPUT: true; the input reads as it did. -/
def homeComplaintsSpec : ChangeSpec := { name := "homeComplaints", fn := fun _ => fun
  | [d1, d2] => { results := [.lit (.bool true)], args := [d1, d2] }
  | _ => none }
def homeComplaintsRow : OpenClaim := { program := "ytfoeefaamjknpaagreatdoor", sum := "a65bf5df63cdc7e1566e9e7be48f54c88905fd423243a75414e28f2c0974a07b", func := "flyover/flyoverlaw08.HomeComplaints", spec := "homeComplaints", inPlace := ["internal/abi.NoEscape", "internal/bytealg.MakeNoZero", "internal/bytealg.IndexByteString", "internal/bytealg.CountString", "internal/bytealg.IndexString"], unfollowed := true, recurses := true, named := ["flyover/sound.base", "flyover/home.verdicts", "internal/strconv.uint64pow10", "math/bits.deBruijn32tab", "math/bits.deBruijn64tab", "unicode/utf8.first", "unicode/utf8.acceptRanges", "internal/bytealg.MaxLen"], apart := false, laid := [("math/bits.deBruijn32tab", laid_math_bits_deBruijn32tab), ("math/bits.deBruijn64tab", laid_math_bits_deBruijn64tab), ("internal/strconv.uint64pow10", laid_internal_strconv_uint64pow10), ("unicode/utf8.acceptRanges", laid_unicode_utf8_acceptRanges), ("flyover/sound.base", laid_flyover_sound_base), ("flyover/home.verdicts", laid_flyover_home_verdicts), ("unicode/utf8.first", laid_unicode_utf8_first)] }
def HomeComplaintsSaid : Prop := homeComplaintsRow.holds Tryz.pinned (OpenSpec.ofChange homeComplaintsSpec)

/-- ITS FALSE NEIGHBOUR: 'it returns false'. Refute it at one input. -/
def homeComplaintsWrong : ChangeSpec := { name := "homeComplaints", fn := fun _ => fun
  | [d1, d2] => { results := [.lit (.bool false)], args := [d1, d2] }
  | _ => none }
def HomeComplaintsWrongFalsely : Prop := homeComplaintsRow.holds Tryz.pinned (OpenSpec.ofChange homeComplaintsWrong)

/-- 'flyoverlaw08.HomeStrings': WHATEVER THE INPUT: true; the input reads as it did. -/
def homeStringsSpec : ChangeSpec := { name := "homeStrings", fn := fun _ => fun
  | [d1, d2] => { results := [.lit (.bool true)], args := [d1, d2] }
  | _ => none }
def homeStringsRow : OpenClaim := { program := "ytfoeefaamjknpaagreatdoor", sum := "a65bf5df63cdc7e1566e9e7be48f54c88905fd423243a75414e28f2c0974a07b", func := "flyover/flyoverlaw08.HomeStrings", spec := "homeStrings", inPlace := ["internal/abi.NoEscape", "internal/bytealg.MakeNoZero", "internal/bytealg.IndexByteString", "internal/bytealg.CountString", "internal/bytealg.IndexString"], unfollowed := true, recurses := true, named := ["flyover/sound.base", "flyover/home.verdicts", "internal/strconv.uint64pow10", "math/bits.deBruijn32tab", "math/bits.deBruijn64tab", "unicode/utf8.first", "unicode/utf8.acceptRanges", "internal/bytealg.MaxLen"], apart := false, laid := [("math/bits.deBruijn32tab", laid_math_bits_deBruijn32tab), ("math/bits.deBruijn64tab", laid_math_bits_deBruijn64tab), ("internal/strconv.uint64pow10", laid_internal_strconv_uint64pow10), ("unicode/utf8.acceptRanges", laid_unicode_utf8_acceptRanges), ("flyover/sound.base", laid_flyover_sound_base), ("flyover/home.verdicts", laid_flyover_home_verdicts), ("unicode/utf8.first", laid_unicode_utf8_first)] }
def HomeStringsSaid : Prop := homeStringsRow.holds Tryz.pinned (OpenSpec.ofChange homeStringsSpec)

/-- ITS FALSE NEIGHBOUR: 'it returns false'. Refute it at one input. -/
def homeStringsWrong : ChangeSpec := { name := "homeStrings", fn := fun _ => fun
  | [d1, d2] => { results := [.lit (.bool false)], args := [d1, d2] }
  | _ => none }
def HomeStringsWrongFalsely : Prop := homeStringsRow.holds Tryz.pinned (OpenSpec.ofChange homeStringsWrong)

/-- 'flyoverlaw08.HomeLeast': WHATEVER THE INPUT: true; the input reads as it did. -/
def homeLeastSpec : ChangeSpec := { name := "homeLeast", fn := fun _ => fun
  | [d1, d2, d3] => { results := [.lit (.bool true)], args := [d1, d2, d3] }
  | _ => none }
def homeLeastRow : OpenClaim := { program := "ytfoeefaamjknpaagreatdoor", sum := "a65bf5df63cdc7e1566e9e7be48f54c88905fd423243a75414e28f2c0974a07b", func := "flyover/flyoverlaw08.HomeLeast", spec := "homeLeast", inPlace := ["internal/abi.NoEscape", "internal/bytealg.MakeNoZero", "internal/bytealg.IndexByteString", "internal/bytealg.CountString", "internal/bytealg.IndexString"], unfollowed := true, recurses := true, named := ["flyover/sound.base", "flyover/home.verdicts", "internal/strconv.uint64pow10", "math/bits.deBruijn32tab", "math/bits.deBruijn64tab", "unicode/utf8.first", "unicode/utf8.acceptRanges", "internal/bytealg.MaxLen"], apart := false, laid := [("math/bits.deBruijn32tab", laid_math_bits_deBruijn32tab), ("math/bits.deBruijn64tab", laid_math_bits_deBruijn64tab), ("internal/strconv.uint64pow10", laid_internal_strconv_uint64pow10), ("unicode/utf8.acceptRanges", laid_unicode_utf8_acceptRanges), ("flyover/sound.base", laid_flyover_sound_base), ("flyover/home.verdicts", laid_flyover_home_verdicts), ("unicode/utf8.first", laid_unicode_utf8_first)] }
def HomeLeastSaid : Prop := homeLeastRow.holds Tryz.pinned (OpenSpec.ofChange homeLeastSpec)

/-- ITS FALSE NEIGHBOUR: 'it returns false'. Refute it at one input. -/
def homeLeastWrong : ChangeSpec := { name := "homeLeast", fn := fun _ => fun
  | [d1, d2, d3] => { results := [.lit (.bool false)], args := [d1, d2, d3] }
  | _ => none }
def HomeLeastWrongFalsely : Prop := homeLeastRow.holds Tryz.pinned (OpenSpec.ofChange homeLeastWrong)

/-- 'flyoverlaw08.HomeOnce': WHATEVER THE INPUT: true; the input reads as it did. -/
def homeOnceSpec : ChangeSpec := { name := "homeOnce", fn := fun _ => fun
  | [d1, d2, d3] => { results := [.lit (.bool true)], args := [d1, d2, d3] }
  | _ => none }
def homeOnceRow : OpenClaim := { program := "ytfoeefaamjknpaagreatdoor", sum := "a65bf5df63cdc7e1566e9e7be48f54c88905fd423243a75414e28f2c0974a07b", func := "flyover/flyoverlaw08.HomeOnce", spec := "homeOnce", inPlace := ["internal/abi.NoEscape", "internal/bytealg.MakeNoZero", "internal/bytealg.IndexByteString", "internal/bytealg.CountString", "internal/bytealg.IndexString"], unfollowed := true, recurses := true, named := ["flyover/sound.base", "flyover/home.verdicts", "internal/strconv.uint64pow10", "math/bits.deBruijn32tab", "math/bits.deBruijn64tab", "unicode/utf8.first", "unicode/utf8.acceptRanges", "internal/bytealg.MaxLen"], apart := false, laid := [("math/bits.deBruijn32tab", laid_math_bits_deBruijn32tab), ("math/bits.deBruijn64tab", laid_math_bits_deBruijn64tab), ("internal/strconv.uint64pow10", laid_internal_strconv_uint64pow10), ("unicode/utf8.acceptRanges", laid_unicode_utf8_acceptRanges), ("flyover/sound.base", laid_flyover_sound_base), ("flyover/home.verdicts", laid_flyover_home_verdicts), ("unicode/utf8.first", laid_unicode_utf8_first)] }
def HomeOnceSaid : Prop := homeOnceRow.holds Tryz.pinned (OpenSpec.ofChange homeOnceSpec)

/-- ITS FALSE NEIGHBOUR: 'it returns false'. Refute it at one input. -/
def homeOnceWrong : ChangeSpec := { name := "homeOnce", fn := fun _ => fun
  | [d1, d2, d3] => { results := [.lit (.bool false)], args := [d1, d2, d3] }
  | _ => none }
def HomeOnceWrongFalsely : Prop := homeOnceRow.holds Tryz.pinned (OpenSpec.ofChange homeOnceWrong)

/-- 'flyoverlaw08.HomeNear': WHATEVER THE INPUT: true; the input reads as it did. -/
def homeNearSpec : ChangeSpec := { name := "homeNear", fn := fun _ => fun
  | [d1, d2, d3] => { results := [.lit (.bool true)], args := [d1, d2, d3] }
  | _ => none }
def homeNearRow : OpenClaim := { program := "ytfoeefaamjknpaagreatdoor", sum := "a65bf5df63cdc7e1566e9e7be48f54c88905fd423243a75414e28f2c0974a07b", func := "flyover/flyoverlaw08.HomeNear", spec := "homeNear", inPlace := ["internal/abi.NoEscape", "internal/bytealg.MakeNoZero", "internal/bytealg.IndexByteString", "internal/bytealg.CountString", "internal/bytealg.IndexString"], unfollowed := true, recurses := true, named := ["flyover/sound.base", "flyover/home.verdicts", "internal/strconv.uint64pow10", "math/bits.deBruijn32tab", "math/bits.deBruijn64tab", "unicode/utf8.first", "unicode/utf8.acceptRanges", "internal/bytealg.MaxLen"], apart := false, laid := [("math/bits.deBruijn32tab", laid_math_bits_deBruijn32tab), ("math/bits.deBruijn64tab", laid_math_bits_deBruijn64tab), ("internal/strconv.uint64pow10", laid_internal_strconv_uint64pow10), ("unicode/utf8.acceptRanges", laid_unicode_utf8_acceptRanges), ("flyover/sound.base", laid_flyover_sound_base), ("flyover/home.verdicts", laid_flyover_home_verdicts), ("unicode/utf8.first", laid_unicode_utf8_first)] }
def HomeNearSaid : Prop := homeNearRow.holds Tryz.pinned (OpenSpec.ofChange homeNearSpec)

/-- ITS FALSE NEIGHBOUR: 'it returns false'. Refute it at one input. -/
def homeNearWrong : ChangeSpec := { name := "homeNear", fn := fun _ => fun
  | [d1, d2, d3] => { results := [.lit (.bool false)], args := [d1, d2, d3] }
  | _ => none }
def HomeNearWrongFalsely : Prop := homeNearRow.holds Tryz.pinned (OpenSpec.ofChange homeNearWrong)

/-- 'flyoverlaw08.HomeQuiet': WHATEVER THE INPUT: true; the input reads as it did. -/
def homeQuietSpec : ChangeSpec := { name := "homeQuiet", fn := fun _ => fun
  | [d1, d2] => { results := [.lit (.bool true)], args := [d1, d2] }
  | _ => none }
def homeQuietRow : OpenClaim := { program := "ytfoeefaamjknpaagreatdoor", sum := "a65bf5df63cdc7e1566e9e7be48f54c88905fd423243a75414e28f2c0974a07b", func := "flyover/flyoverlaw08.HomeQuiet", spec := "homeQuiet", inPlace := ["internal/abi.NoEscape", "internal/bytealg.MakeNoZero", "internal/bytealg.IndexByteString", "internal/bytealg.CountString", "internal/bytealg.IndexString"], unfollowed := true, recurses := true, named := ["flyover/sound.base", "flyover/home.verdicts", "internal/strconv.uint64pow10", "math/bits.deBruijn32tab", "math/bits.deBruijn64tab", "unicode/utf8.first", "unicode/utf8.acceptRanges", "internal/bytealg.MaxLen"], apart := false, laid := [("math/bits.deBruijn32tab", laid_math_bits_deBruijn32tab), ("math/bits.deBruijn64tab", laid_math_bits_deBruijn64tab), ("internal/strconv.uint64pow10", laid_internal_strconv_uint64pow10), ("unicode/utf8.acceptRanges", laid_unicode_utf8_acceptRanges), ("flyover/sound.base", laid_flyover_sound_base), ("flyover/home.verdicts", laid_flyover_home_verdicts), ("unicode/utf8.first", laid_unicode_utf8_first)] }
def HomeQuietSaid : Prop := homeQuietRow.holds Tryz.pinned (OpenSpec.ofChange homeQuietSpec)

/-- ITS FALSE NEIGHBOUR: 'it returns false'. Refute it at one input. -/
def homeQuietWrong : ChangeSpec := { name := "homeQuiet", fn := fun _ => fun
  | [d1, d2] => { results := [.lit (.bool false)], args := [d1, d2] }
  | _ => none }
def HomeQuietWrongFalsely : Prop := homeQuietRow.holds Tryz.pinned (OpenSpec.ofChange homeQuietWrong)

/- THE SECOND FORM. 'bulk': how many values and letters a reading holds, each counted each time it is reached (what is shared counts as often as it is met; a slice's spare places count too). A statement '..UptoSaid' is the law's where the arguments, and the package variables that the reading takes, are together of bulk at most 1048576: NARROWER than '..Said'. Prove '..Said' where nothing that the law and all that it calls make is longer than what came in: it says more and counts as full. Else prove '..UptoSaid'. A law counts once. -/
mutual
def uptoBulk {H : Type} : DataW H → Nat
  | .lit (.string bytes) => bytes.length + 1
  | .lit _ => 1
  | .nil => 1
  | .ptr d => uptoBulk d + 1
  | .slice elems spare => uptoBulkAll elems + uptoBulkAll spare + 1
  | .agg parts => uptoBulkAll parts + 1
  | .iface _ d => uptoBulk d + 1
  | .map entries => uptoBulkEntries entries + 1
  | .held _ => 1
def uptoBulkAll {H : Type} : List (DataW H) → Nat
  | [] => 0
  | d :: r => uptoBulk d + uptoBulkAll r
def uptoBulkEntries {H : Type} : List (Lit × DataW H) → Nat
  | [] => 0
  | x :: r => uptoBulkEntry x + uptoBulkEntries r
def uptoBulkEntry {H : Type} : Lit × DataW H → Nat
  | (.string bytes, d) => bytes.length + uptoBulk d + 1
  | (_, d) => uptoBulk d + 1
 end
def uptoSmall : (H : Type) → List (DataW H) → Bool := fun _ ds => decide (uptoBulkAll ds ≤ 1048576)
def OpenSpec.upto (s : _root_.Go.ChangeSpec) : _root_.Go.OpenSpec := { _root_.Go.OpenSpec.ofChange s with cond := some uptoSmall }

/-- 'flyoverlaw08.HomeWindows', WHERE WHAT IT READS IS OF BULK AT MOST 1048576: true; the input reads as it did. -/
def homeWindowsUptoRow : OpenClaim := { program := "ytfoeefaamjknpaagreatdoor", sum := "a65bf5df63cdc7e1566e9e7be48f54c88905fd423243a75414e28f2c0974a07b", func := "flyover/flyoverlaw08.HomeWindows", spec := "homeWindows", inPlace := ["internal/abi.NoEscape", "internal/bytealg.MakeNoZero", "internal/bytealg.IndexByteString", "internal/bytealg.CountString", "internal/bytealg.IndexString"], unfollowed := true, recurses := true, named := ["flyover/sound.base", "flyover/home.verdicts", "internal/strconv.uint64pow10", "math/bits.deBruijn32tab", "math/bits.deBruijn64tab", "unicode/utf8.first", "unicode/utf8.acceptRanges", "internal/bytealg.MaxLen"], apart := false, laid := [("math/bits.deBruijn32tab", laid_math_bits_deBruijn32tab), ("math/bits.deBruijn64tab", laid_math_bits_deBruijn64tab), ("internal/strconv.uint64pow10", laid_internal_strconv_uint64pow10), ("unicode/utf8.acceptRanges", laid_unicode_utf8_acceptRanges), ("flyover/sound.base", laid_flyover_sound_base), ("flyover/home.verdicts", laid_flyover_home_verdicts), ("unicode/utf8.first", laid_unicode_utf8_first)], narrowed := true }
def HomeWindowsUptoSaid : Prop := homeWindowsUptoRow.holds Tryz.pinned (OpenSpec.upto homeWindowsSpec)

/-- 'flyoverlaw08.HomeWorks', WHERE WHAT IT READS IS OF BULK AT MOST 1048576: true; the input reads as it did. -/
def homeWorksUptoRow : OpenClaim := { program := "ytfoeefaamjknpaagreatdoor", sum := "a65bf5df63cdc7e1566e9e7be48f54c88905fd423243a75414e28f2c0974a07b", func := "flyover/flyoverlaw08.HomeWorks", spec := "homeWorks", inPlace := ["internal/abi.NoEscape", "internal/bytealg.MakeNoZero", "internal/bytealg.IndexByteString", "internal/bytealg.CountString", "internal/bytealg.IndexString"], unfollowed := true, recurses := true, named := ["flyover/sound.base", "flyover/home.verdicts", "internal/strconv.uint64pow10", "math/bits.deBruijn32tab", "math/bits.deBruijn64tab", "unicode/utf8.first", "unicode/utf8.acceptRanges", "internal/bytealg.MaxLen"], apart := false, laid := [("math/bits.deBruijn32tab", laid_math_bits_deBruijn32tab), ("math/bits.deBruijn64tab", laid_math_bits_deBruijn64tab), ("internal/strconv.uint64pow10", laid_internal_strconv_uint64pow10), ("unicode/utf8.acceptRanges", laid_unicode_utf8_acceptRanges), ("flyover/sound.base", laid_flyover_sound_base), ("flyover/home.verdicts", laid_flyover_home_verdicts), ("unicode/utf8.first", laid_unicode_utf8_first)], narrowed := true }
def HomeWorksUptoSaid : Prop := homeWorksUptoRow.holds Tryz.pinned (OpenSpec.upto homeWorksSpec)

/-- 'flyoverlaw08.HomeZones', WHERE WHAT IT READS IS OF BULK AT MOST 1048576: true; the input reads as it did. -/
def homeZonesUptoRow : OpenClaim := { program := "ytfoeefaamjknpaagreatdoor", sum := "a65bf5df63cdc7e1566e9e7be48f54c88905fd423243a75414e28f2c0974a07b", func := "flyover/flyoverlaw08.HomeZones", spec := "homeZones", inPlace := ["internal/abi.NoEscape", "internal/bytealg.MakeNoZero", "internal/bytealg.IndexByteString", "internal/bytealg.CountString", "internal/bytealg.IndexString"], unfollowed := true, recurses := true, named := ["flyover/sound.base", "flyover/home.verdicts", "internal/strconv.uint64pow10", "math/bits.deBruijn32tab", "math/bits.deBruijn64tab", "unicode/utf8.first", "unicode/utf8.acceptRanges", "internal/bytealg.MaxLen"], apart := false, laid := [("math/bits.deBruijn32tab", laid_math_bits_deBruijn32tab), ("math/bits.deBruijn64tab", laid_math_bits_deBruijn64tab), ("internal/strconv.uint64pow10", laid_internal_strconv_uint64pow10), ("unicode/utf8.acceptRanges", laid_unicode_utf8_acceptRanges), ("flyover/sound.base", laid_flyover_sound_base), ("flyover/home.verdicts", laid_flyover_home_verdicts), ("unicode/utf8.first", laid_unicode_utf8_first)], narrowed := true }
def HomeZonesUptoSaid : Prop := homeZonesUptoRow.holds Tryz.pinned (OpenSpec.upto homeZonesSpec)

/-- 'flyoverlaw08.HomeOffers', WHERE WHAT IT READS IS OF BULK AT MOST 1048576: true; the input reads as it did. -/
def homeOffersUptoRow : OpenClaim := { program := "ytfoeefaamjknpaagreatdoor", sum := "a65bf5df63cdc7e1566e9e7be48f54c88905fd423243a75414e28f2c0974a07b", func := "flyover/flyoverlaw08.HomeOffers", spec := "homeOffers", inPlace := ["internal/abi.NoEscape", "internal/bytealg.MakeNoZero", "internal/bytealg.IndexByteString", "internal/bytealg.CountString", "internal/bytealg.IndexString"], unfollowed := true, recurses := true, named := ["flyover/sound.base", "flyover/home.verdicts", "internal/strconv.uint64pow10", "math/bits.deBruijn32tab", "math/bits.deBruijn64tab", "unicode/utf8.first", "unicode/utf8.acceptRanges", "internal/bytealg.MaxLen"], apart := false, laid := [("math/bits.deBruijn32tab", laid_math_bits_deBruijn32tab), ("math/bits.deBruijn64tab", laid_math_bits_deBruijn64tab), ("internal/strconv.uint64pow10", laid_internal_strconv_uint64pow10), ("unicode/utf8.acceptRanges", laid_unicode_utf8_acceptRanges), ("flyover/sound.base", laid_flyover_sound_base), ("flyover/home.verdicts", laid_flyover_home_verdicts), ("unicode/utf8.first", laid_unicode_utf8_first)], narrowed := true }
def HomeOffersUptoSaid : Prop := homeOffersUptoRow.holds Tryz.pinned (OpenSpec.upto homeOffersSpec)

/-- 'flyoverlaw08.HomeFunds', WHERE WHAT IT READS IS OF BULK AT MOST 1048576: true; the input reads as it did. -/
def homeFundsUptoRow : OpenClaim := { program := "ytfoeefaamjknpaagreatdoor", sum := "a65bf5df63cdc7e1566e9e7be48f54c88905fd423243a75414e28f2c0974a07b", func := "flyover/flyoverlaw08.HomeFunds", spec := "homeFunds", inPlace := ["internal/abi.NoEscape", "internal/bytealg.MakeNoZero", "internal/bytealg.IndexByteString", "internal/bytealg.CountString", "internal/bytealg.IndexString"], unfollowed := true, recurses := true, named := ["flyover/sound.base", "flyover/home.verdicts", "internal/strconv.uint64pow10", "math/bits.deBruijn32tab", "math/bits.deBruijn64tab", "unicode/utf8.first", "unicode/utf8.acceptRanges", "internal/bytealg.MaxLen"], apart := false, laid := [("math/bits.deBruijn32tab", laid_math_bits_deBruijn32tab), ("math/bits.deBruijn64tab", laid_math_bits_deBruijn64tab), ("internal/strconv.uint64pow10", laid_internal_strconv_uint64pow10), ("unicode/utf8.acceptRanges", laid_unicode_utf8_acceptRanges), ("flyover/sound.base", laid_flyover_sound_base), ("flyover/home.verdicts", laid_flyover_home_verdicts), ("unicode/utf8.first", laid_unicode_utf8_first)], narrowed := true }
def HomeFundsUptoSaid : Prop := homeFundsUptoRow.holds Tryz.pinned (OpenSpec.upto homeFundsSpec)

/-- 'flyoverlaw08.HomeComplaints', WHERE WHAT IT READS IS OF BULK AT MOST 1048576: true; the input reads as it did. -/
def homeComplaintsUptoRow : OpenClaim := { program := "ytfoeefaamjknpaagreatdoor", sum := "a65bf5df63cdc7e1566e9e7be48f54c88905fd423243a75414e28f2c0974a07b", func := "flyover/flyoverlaw08.HomeComplaints", spec := "homeComplaints", inPlace := ["internal/abi.NoEscape", "internal/bytealg.MakeNoZero", "internal/bytealg.IndexByteString", "internal/bytealg.CountString", "internal/bytealg.IndexString"], unfollowed := true, recurses := true, named := ["flyover/sound.base", "flyover/home.verdicts", "internal/strconv.uint64pow10", "math/bits.deBruijn32tab", "math/bits.deBruijn64tab", "unicode/utf8.first", "unicode/utf8.acceptRanges", "internal/bytealg.MaxLen"], apart := false, laid := [("math/bits.deBruijn32tab", laid_math_bits_deBruijn32tab), ("math/bits.deBruijn64tab", laid_math_bits_deBruijn64tab), ("internal/strconv.uint64pow10", laid_internal_strconv_uint64pow10), ("unicode/utf8.acceptRanges", laid_unicode_utf8_acceptRanges), ("flyover/sound.base", laid_flyover_sound_base), ("flyover/home.verdicts", laid_flyover_home_verdicts), ("unicode/utf8.first", laid_unicode_utf8_first)], narrowed := true }
def HomeComplaintsUptoSaid : Prop := homeComplaintsUptoRow.holds Tryz.pinned (OpenSpec.upto homeComplaintsSpec)

/-- 'flyoverlaw08.HomeStrings', WHERE WHAT IT READS IS OF BULK AT MOST 1048576: true; the input reads as it did. -/
def homeStringsUptoRow : OpenClaim := { program := "ytfoeefaamjknpaagreatdoor", sum := "a65bf5df63cdc7e1566e9e7be48f54c88905fd423243a75414e28f2c0974a07b", func := "flyover/flyoverlaw08.HomeStrings", spec := "homeStrings", inPlace := ["internal/abi.NoEscape", "internal/bytealg.MakeNoZero", "internal/bytealg.IndexByteString", "internal/bytealg.CountString", "internal/bytealg.IndexString"], unfollowed := true, recurses := true, named := ["flyover/sound.base", "flyover/home.verdicts", "internal/strconv.uint64pow10", "math/bits.deBruijn32tab", "math/bits.deBruijn64tab", "unicode/utf8.first", "unicode/utf8.acceptRanges", "internal/bytealg.MaxLen"], apart := false, laid := [("math/bits.deBruijn32tab", laid_math_bits_deBruijn32tab), ("math/bits.deBruijn64tab", laid_math_bits_deBruijn64tab), ("internal/strconv.uint64pow10", laid_internal_strconv_uint64pow10), ("unicode/utf8.acceptRanges", laid_unicode_utf8_acceptRanges), ("flyover/sound.base", laid_flyover_sound_base), ("flyover/home.verdicts", laid_flyover_home_verdicts), ("unicode/utf8.first", laid_unicode_utf8_first)], narrowed := true }
def HomeStringsUptoSaid : Prop := homeStringsUptoRow.holds Tryz.pinned (OpenSpec.upto homeStringsSpec)

/-- 'flyoverlaw08.HomeLeast', WHERE WHAT IT READS IS OF BULK AT MOST 1048576: true; the input reads as it did. -/
def homeLeastUptoRow : OpenClaim := { program := "ytfoeefaamjknpaagreatdoor", sum := "a65bf5df63cdc7e1566e9e7be48f54c88905fd423243a75414e28f2c0974a07b", func := "flyover/flyoverlaw08.HomeLeast", spec := "homeLeast", inPlace := ["internal/abi.NoEscape", "internal/bytealg.MakeNoZero", "internal/bytealg.IndexByteString", "internal/bytealg.CountString", "internal/bytealg.IndexString"], unfollowed := true, recurses := true, named := ["flyover/sound.base", "flyover/home.verdicts", "internal/strconv.uint64pow10", "math/bits.deBruijn32tab", "math/bits.deBruijn64tab", "unicode/utf8.first", "unicode/utf8.acceptRanges", "internal/bytealg.MaxLen"], apart := false, laid := [("math/bits.deBruijn32tab", laid_math_bits_deBruijn32tab), ("math/bits.deBruijn64tab", laid_math_bits_deBruijn64tab), ("internal/strconv.uint64pow10", laid_internal_strconv_uint64pow10), ("unicode/utf8.acceptRanges", laid_unicode_utf8_acceptRanges), ("flyover/sound.base", laid_flyover_sound_base), ("flyover/home.verdicts", laid_flyover_home_verdicts), ("unicode/utf8.first", laid_unicode_utf8_first)], narrowed := true }
def HomeLeastUptoSaid : Prop := homeLeastUptoRow.holds Tryz.pinned (OpenSpec.upto homeLeastSpec)

/-- 'flyoverlaw08.HomeOnce', WHERE WHAT IT READS IS OF BULK AT MOST 1048576: true; the input reads as it did. -/
def homeOnceUptoRow : OpenClaim := { program := "ytfoeefaamjknpaagreatdoor", sum := "a65bf5df63cdc7e1566e9e7be48f54c88905fd423243a75414e28f2c0974a07b", func := "flyover/flyoverlaw08.HomeOnce", spec := "homeOnce", inPlace := ["internal/abi.NoEscape", "internal/bytealg.MakeNoZero", "internal/bytealg.IndexByteString", "internal/bytealg.CountString", "internal/bytealg.IndexString"], unfollowed := true, recurses := true, named := ["flyover/sound.base", "flyover/home.verdicts", "internal/strconv.uint64pow10", "math/bits.deBruijn32tab", "math/bits.deBruijn64tab", "unicode/utf8.first", "unicode/utf8.acceptRanges", "internal/bytealg.MaxLen"], apart := false, laid := [("math/bits.deBruijn32tab", laid_math_bits_deBruijn32tab), ("math/bits.deBruijn64tab", laid_math_bits_deBruijn64tab), ("internal/strconv.uint64pow10", laid_internal_strconv_uint64pow10), ("unicode/utf8.acceptRanges", laid_unicode_utf8_acceptRanges), ("flyover/sound.base", laid_flyover_sound_base), ("flyover/home.verdicts", laid_flyover_home_verdicts), ("unicode/utf8.first", laid_unicode_utf8_first)], narrowed := true }
def HomeOnceUptoSaid : Prop := homeOnceUptoRow.holds Tryz.pinned (OpenSpec.upto homeOnceSpec)

/-- 'flyoverlaw08.HomeNear', WHERE WHAT IT READS IS OF BULK AT MOST 1048576: true; the input reads as it did. -/
def homeNearUptoRow : OpenClaim := { program := "ytfoeefaamjknpaagreatdoor", sum := "a65bf5df63cdc7e1566e9e7be48f54c88905fd423243a75414e28f2c0974a07b", func := "flyover/flyoverlaw08.HomeNear", spec := "homeNear", inPlace := ["internal/abi.NoEscape", "internal/bytealg.MakeNoZero", "internal/bytealg.IndexByteString", "internal/bytealg.CountString", "internal/bytealg.IndexString"], unfollowed := true, recurses := true, named := ["flyover/sound.base", "flyover/home.verdicts", "internal/strconv.uint64pow10", "math/bits.deBruijn32tab", "math/bits.deBruijn64tab", "unicode/utf8.first", "unicode/utf8.acceptRanges", "internal/bytealg.MaxLen"], apart := false, laid := [("math/bits.deBruijn32tab", laid_math_bits_deBruijn32tab), ("math/bits.deBruijn64tab", laid_math_bits_deBruijn64tab), ("internal/strconv.uint64pow10", laid_internal_strconv_uint64pow10), ("unicode/utf8.acceptRanges", laid_unicode_utf8_acceptRanges), ("flyover/sound.base", laid_flyover_sound_base), ("flyover/home.verdicts", laid_flyover_home_verdicts), ("unicode/utf8.first", laid_unicode_utf8_first)], narrowed := true }
def HomeNearUptoSaid : Prop := homeNearUptoRow.holds Tryz.pinned (OpenSpec.upto homeNearSpec)

/-- 'flyoverlaw08.HomeQuiet', WHERE WHAT IT READS IS OF BULK AT MOST 1048576: true; the input reads as it did. -/
def homeQuietUptoRow : OpenClaim := { program := "ytfoeefaamjknpaagreatdoor", sum := "a65bf5df63cdc7e1566e9e7be48f54c88905fd423243a75414e28f2c0974a07b", func := "flyover/flyoverlaw08.HomeQuiet", spec := "homeQuiet", inPlace := ["internal/abi.NoEscape", "internal/bytealg.MakeNoZero", "internal/bytealg.IndexByteString", "internal/bytealg.CountString", "internal/bytealg.IndexString"], unfollowed := true, recurses := true, named := ["flyover/sound.base", "flyover/home.verdicts", "internal/strconv.uint64pow10", "math/bits.deBruijn32tab", "math/bits.deBruijn64tab", "unicode/utf8.first", "unicode/utf8.acceptRanges", "internal/bytealg.MaxLen"], apart := false, laid := [("math/bits.deBruijn32tab", laid_math_bits_deBruijn32tab), ("math/bits.deBruijn64tab", laid_math_bits_deBruijn64tab), ("internal/strconv.uint64pow10", laid_internal_strconv_uint64pow10), ("unicode/utf8.acceptRanges", laid_unicode_utf8_acceptRanges), ("flyover/sound.base", laid_flyover_sound_base), ("flyover/home.verdicts", laid_flyover_home_verdicts), ("unicode/utf8.first", laid_unicode_utf8_first)], narrowed := true }
def HomeQuietUptoSaid : Prop := homeQuietUptoRow.holds Tryz.pinned (OpenSpec.upto homeQuietSpec)

end Rows
end Go.Proofs.YtfoeefaamjknpaaGreatDoor
