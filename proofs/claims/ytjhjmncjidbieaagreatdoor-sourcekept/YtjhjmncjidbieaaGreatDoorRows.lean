/-
  NARROWER THAN 'FOR EVERY INPUT', by the rows' own cells (each row's printed sentence says how): SourcePaths: laid · SourceExposures: laid · SourceFlies: laid · SourceTypes: laid · SourceCut: laid · SourceTurned: laid · SourceFlights: laid · SourceTracks: laid · SourceStrings: laid · SourceKept: laid.
  DERIVED. THE GIVEN ROWS OF THIS SEAT. 10 by the template 'for every input the law returns true; each argument reads behind the call as it read before'; 0 by the template 'total and deterministic' (their statements: YtjhjmncjidbieaaGreatDoorTotals.lean).
  GIVEN WITH THE SEED: the statements are not yours to turn. If you find one false, say at which input.
  Laid BY PROGRAM, IN A SANDBOX (cutbox-rows.mjs): the forced cells as the released guide's own fill.sh prints them over the translation 6907475ca7629b3e… (all of the seat's roots in one cut). By AI agents, Wed Nov 11 2026. No macro, syntax, notation, axiom, sorry.
-/
import Derived.Test.YtjhjmncjidbieaaGreatDoorChecked
import GoSem.PinnedTables
import GoSem.Claim
import GoSem.ClaimJoined
import GoSem.ClaimMapViews
import Derived.JoinedTies
import Derived.KernelRfl
namespace Go.Proofs.YtjhjmncjidbieaaGreatDoor
/- THE CELL 'sum', in the pinned program and in every row, IS THE sha256 OF THE DUMP (.gsa) THAT YtjhjmncjidbieaaGreatDoorProg.lean LOADS. Nothing in Lean hashes anything: it is a label: what it is worth is what the hold of that sum in a sandbox is worth. -/
noncomputable def Tryz.pinned : Pinned := { name := "ytjhjmncjidbieaagreatdoor", sum := "6907475ca7629b3eebb6dc86c4c1d77cf290f746dc436834c7f9b8488428de4c", checked := Tryz.checked }
namespace Rows
def none {H : Type} : Left H := { results := [], args := [] }

/- WHAT THE LISTED PACKAGE-LEVEL VARIABLES READ AS WHEN THE CALL BEGINS. Each datum BY PROGRAM (the guide's laid-datum.mjs) off the statement by which the dump's own 'gosem.cut.vars' lays the variable. In a bare row this is a premise. The card (YtjhjmncjidbieaaGreatDoorCards.lean) ties it to the program's text. -/
def laid_math_bits_deBruijn32tab {H : Type} : DataW H := .agg [.lit (.int .u8 0), .lit (.int .u8 1), .lit (.int .u8 28), .lit (.int .u8 2), .lit (.int .u8 29), .lit (.int .u8 14), .lit (.int .u8 24), .lit (.int .u8 3), .lit (.int .u8 30), .lit (.int .u8 22), .lit (.int .u8 20), .lit (.int .u8 15), .lit (.int .u8 25), .lit (.int .u8 17), .lit (.int .u8 4), .lit (.int .u8 8), .lit (.int .u8 31), .lit (.int .u8 27), .lit (.int .u8 13), .lit (.int .u8 23), .lit (.int .u8 21), .lit (.int .u8 19), .lit (.int .u8 16), .lit (.int .u8 7), .lit (.int .u8 26), .lit (.int .u8 12), .lit (.int .u8 18), .lit (.int .u8 6), .lit (.int .u8 11), .lit (.int .u8 5), .lit (.int .u8 10), .lit (.int .u8 9)]
def laid_math_bits_deBruijn64tab {H : Type} : DataW H := .agg [.lit (.int .u8 0), .lit (.int .u8 1), .lit (.int .u8 56), .lit (.int .u8 2), .lit (.int .u8 57), .lit (.int .u8 49), .lit (.int .u8 28), .lit (.int .u8 3), .lit (.int .u8 61), .lit (.int .u8 58), .lit (.int .u8 42), .lit (.int .u8 50), .lit (.int .u8 38), .lit (.int .u8 29), .lit (.int .u8 17), .lit (.int .u8 4), .lit (.int .u8 62), .lit (.int .u8 47), .lit (.int .u8 59), .lit (.int .u8 36), .lit (.int .u8 45), .lit (.int .u8 43), .lit (.int .u8 51), .lit (.int .u8 22), .lit (.int .u8 53), .lit (.int .u8 39), .lit (.int .u8 33), .lit (.int .u8 30), .lit (.int .u8 24), .lit (.int .u8 18), .lit (.int .u8 12), .lit (.int .u8 5), .lit (.int .u8 63), .lit (.int .u8 55), .lit (.int .u8 48), .lit (.int .u8 27), .lit (.int .u8 60), .lit (.int .u8 41), .lit (.int .u8 37), .lit (.int .u8 16), .lit (.int .u8 46), .lit (.int .u8 35), .lit (.int .u8 44), .lit (.int .u8 21), .lit (.int .u8 52), .lit (.int .u8 32), .lit (.int .u8 23), .lit (.int .u8 11), .lit (.int .u8 54), .lit (.int .u8 26), .lit (.int .u8 40), .lit (.int .u8 15), .lit (.int .u8 34), .lit (.int .u8 20), .lit (.int .u8 31), .lit (.int .u8 10), .lit (.int .u8 25), .lit (.int .u8 14), .lit (.int .u8 19), .lit (.int .u8 9), .lit (.int .u8 13), .lit (.int .u8 8), .lit (.int .u8 7), .lit (.int .u8 6)]
def laid_internal_strconv_uint64pow10 {H : Type} : DataW H := .agg [.lit (.int .u64 1), .lit (.int .u64 10), .lit (.int .u64 100), .lit (.int .u64 1000), .lit (.int .u64 10000), .lit (.int .u64 100000), .lit (.int .u64 1000000), .lit (.int .u64 10000000), .lit (.int .u64 100000000), .lit (.int .u64 1000000000), .lit (.int .u64 10000000000), .lit (.int .u64 100000000000), .lit (.int .u64 1000000000000), .lit (.int .u64 10000000000000), .lit (.int .u64 100000000000000), .lit (.int .u64 1000000000000000), .lit (.int .u64 10000000000000000), .lit (.int .u64 100000000000000000), .lit (.int .u64 1000000000000000000), .lit (.int .u64 10000000000000000000)]
def laid_flyover_source_words {H : Type} : DataW H := .agg [.lit (.string [116, 121, 112, 101]), .lit (.string [115, 104, 97, 114, 101, 115]), .lit (.string [100, 105, 114, 101, 99, 116]), .lit (.string [115, 113, 117, 97, 114, 101, 115]), .lit (.string [112, 111, 119, 101, 114])]
def laid_flyover_flyoverlaw02_turned {H : Type} : DataW H := .agg [.agg [.lit (.int .i64 3), .lit (.int .i64 1)], .agg [.lit (.int .i64 2), .lit (.int .i64 2)], .agg [.lit (.int .i64 0), .lit (.int .i64 5)], .agg [.lit (.int .i64 (-2)), .lit (.int .i64 2)], .agg [.lit (.int .i64 (-3)), .lit (.int .i64 0)], .agg [.lit (.int .i64 (-1)), .lit (.int .i64 (-1))], .agg [.lit (.int .i64 0), .lit (.int .i64 (-4))], .agg [.lit (.int .i64 2), .lit (.int .i64 (-2))]]
def laid_unicode_utf8_acceptRanges {H : Type} : DataW H := .agg [.agg [.lit (.int .u8 128), .lit (.int .u8 191)], .agg [.lit (.int .u8 160), .lit (.int .u8 191)], .agg [.lit (.int .u8 128), .lit (.int .u8 159)], .agg [.lit (.int .u8 144), .lit (.int .u8 191)], .agg [.lit (.int .u8 128), .lit (.int .u8 143)], .agg [.lit (.int .u8 0), .lit (.int .u8 0)], .agg [.lit (.int .u8 0), .lit (.int .u8 0)], .agg [.lit (.int .u8 0), .lit (.int .u8 0)], .agg [.lit (.int .u8 0), .lit (.int .u8 0)], .agg [.lit (.int .u8 0), .lit (.int .u8 0)], .agg [.lit (.int .u8 0), .lit (.int .u8 0)], .agg [.lit (.int .u8 0), .lit (.int .u8 0)], .agg [.lit (.int .u8 0), .lit (.int .u8 0)], .agg [.lit (.int .u8 0), .lit (.int .u8 0)], .agg [.lit (.int .u8 0), .lit (.int .u8 0)], .agg [.lit (.int .u8 0), .lit (.int .u8 0)]]
def laid_flyover_source_forms {H : Type} : DataW H := .iface "func table" (.agg [.agg [.iface "func" (.lit (.string [102, 108, 121, 111, 118, 101, 114, 47, 115, 111, 117, 114, 99, 101, 46, 102, 111, 114, 109, 115, 36, 49]))], .agg [.iface "func" (.lit (.string [102, 108, 121, 111, 118, 101, 114, 47, 115, 111, 117, 114, 99, 101, 46, 102, 111, 114, 109, 115, 36, 50]))], .agg [.iface "func" (.lit (.string [102, 108, 121, 111, 118, 101, 114, 47, 115, 111, 117, 114, 99, 101, 46, 102, 111, 114, 109, 115, 36, 51]))], .agg [.iface "func" (.lit (.string [102, 108, 121, 111, 118, 101, 114, 47, 115, 111, 117, 114, 99, 101, 46, 102, 111, 114, 109, 115, 36, 52]))], .agg [.iface "func" (.lit (.string [102, 108, 121, 111, 118, 101, 114, 47, 115, 111, 117, 114, 99, 101, 46, 102, 111, 114, 109, 115, 36, 53]))]])
/-- One of Go's own tables, pinned by name: the form's constant. -/
def laid_unicode_utf8_first : DataW Unit := Go.Pinned.utf8First

/-- 'flyoverlaw02.SourcePaths': WHATEVER THE INPUT: true; the input reads as it did. -/
def sourcePathsSpec : ChangeSpec := { name := "sourcePaths", fn := fun _ => fun
  | [d1, d2, d3] => { results := [.lit (.bool true)], args := [d1, d2, d3] }
  | _ => none }
def sourcePathsRow : OpenClaim := { program := "ytjhjmncjidbieaagreatdoor", sum := "6907475ca7629b3eebb6dc86c4c1d77cf290f746dc436834c7f9b8488428de4c", func := "flyover/flyoverlaw02.SourcePaths", spec := "sourcePaths", inPlace := ["internal/abi.NoEscape", "internal/bytealg.MakeNoZero"], unfollowed := true, recurses := true, named := ["flyover/flyoverlaw02.turned", "flyover/source.words", "internal/strconv.uint64pow10", "math/bits.deBruijn32tab", "math/bits.deBruijn64tab"], apart := false, laid := [("math/bits.deBruijn32tab", laid_math_bits_deBruijn32tab), ("math/bits.deBruijn64tab", laid_math_bits_deBruijn64tab), ("internal/strconv.uint64pow10", laid_internal_strconv_uint64pow10), ("flyover/source.words", laid_flyover_source_words), ("flyover/flyoverlaw02.turned", laid_flyover_flyoverlaw02_turned)] }
def SourcePathsSaid : Prop := sourcePathsRow.holds Tryz.pinned (OpenSpec.ofChange sourcePathsSpec)

/-- ITS FALSE NEIGHBOUR: 'it returns false'. Refute it at one input. -/
def sourcePathsWrong : ChangeSpec := { name := "sourcePaths", fn := fun _ => fun
  | [d1, d2, d3] => { results := [.lit (.bool false)], args := [d1, d2, d3] }
  | _ => none }
def SourcePathsWrongFalsely : Prop := sourcePathsRow.holds Tryz.pinned (OpenSpec.ofChange sourcePathsWrong)

/-- 'flyoverlaw02.SourceExposures': WHATEVER THE INPUT: true; the input reads as it did. -/
def sourceExposuresSpec : ChangeSpec := { name := "sourceExposures", fn := fun _ => fun
  | [d1, d2, d3] => { results := [.lit (.bool true)], args := [d1, d2, d3] }
  | _ => none }
def sourceExposuresRow : OpenClaim := { program := "ytjhjmncjidbieaagreatdoor", sum := "6907475ca7629b3eebb6dc86c4c1d77cf290f746dc436834c7f9b8488428de4c", func := "flyover/flyoverlaw02.SourceExposures", spec := "sourceExposures", inPlace := ["internal/abi.NoEscape", "internal/bytealg.MakeNoZero"], unfollowed := true, recurses := true, named := ["flyover/flyoverlaw02.turned", "flyover/source.words", "internal/strconv.uint64pow10", "math/bits.deBruijn32tab", "math/bits.deBruijn64tab"], apart := false, laid := [("math/bits.deBruijn32tab", laid_math_bits_deBruijn32tab), ("math/bits.deBruijn64tab", laid_math_bits_deBruijn64tab), ("internal/strconv.uint64pow10", laid_internal_strconv_uint64pow10), ("flyover/source.words", laid_flyover_source_words), ("flyover/flyoverlaw02.turned", laid_flyover_flyoverlaw02_turned)] }
def SourceExposuresSaid : Prop := sourceExposuresRow.holds Tryz.pinned (OpenSpec.ofChange sourceExposuresSpec)

/-- ITS FALSE NEIGHBOUR: 'it returns false'. Refute it at one input. -/
def sourceExposuresWrong : ChangeSpec := { name := "sourceExposures", fn := fun _ => fun
  | [d1, d2, d3] => { results := [.lit (.bool false)], args := [d1, d2, d3] }
  | _ => none }
def SourceExposuresWrongFalsely : Prop := sourceExposuresRow.holds Tryz.pinned (OpenSpec.ofChange sourceExposuresWrong)

/-- 'flyoverlaw02.SourceFlies': WHATEVER THE INPUT: true; the input reads as it did. -/
def sourceFliesSpec : ChangeSpec := { name := "sourceFlies", fn := fun _ => fun
  | [d1, d2, d3] => { results := [.lit (.bool true)], args := [d1, d2, d3] }
  | _ => none }
def sourceFliesRow : OpenClaim := { program := "ytjhjmncjidbieaagreatdoor", sum := "6907475ca7629b3eebb6dc86c4c1d77cf290f746dc436834c7f9b8488428de4c", func := "flyover/flyoverlaw02.SourceFlies", spec := "sourceFlies", inPlace := ["internal/abi.NoEscape", "internal/bytealg.MakeNoZero"], unfollowed := true, recurses := true, named := ["flyover/flyoverlaw02.turned", "flyover/source.words", "internal/strconv.uint64pow10", "math/bits.deBruijn32tab", "math/bits.deBruijn64tab"], apart := false, laid := [("math/bits.deBruijn32tab", laid_math_bits_deBruijn32tab), ("math/bits.deBruijn64tab", laid_math_bits_deBruijn64tab), ("internal/strconv.uint64pow10", laid_internal_strconv_uint64pow10), ("flyover/source.words", laid_flyover_source_words), ("flyover/flyoverlaw02.turned", laid_flyover_flyoverlaw02_turned)] }
def SourceFliesSaid : Prop := sourceFliesRow.holds Tryz.pinned (OpenSpec.ofChange sourceFliesSpec)

/-- ITS FALSE NEIGHBOUR: 'it returns false'. Refute it at one input. -/
def sourceFliesWrong : ChangeSpec := { name := "sourceFlies", fn := fun _ => fun
  | [d1, d2, d3] => { results := [.lit (.bool false)], args := [d1, d2, d3] }
  | _ => none }
def SourceFliesWrongFalsely : Prop := sourceFliesRow.holds Tryz.pinned (OpenSpec.ofChange sourceFliesWrong)

/-- 'flyoverlaw02.SourceTypes': WHATEVER THE INPUT: true; the input reads as it did. -/
def sourceTypesSpec : ChangeSpec := { name := "sourceTypes", fn := fun _ => fun
  | [d1, d2] => { results := [.lit (.bool true)], args := [d1, d2] }
  | _ => none }
def sourceTypesRow : OpenClaim := { program := "ytjhjmncjidbieaagreatdoor", sum := "6907475ca7629b3eebb6dc86c4c1d77cf290f746dc436834c7f9b8488428de4c", func := "flyover/flyoverlaw02.SourceTypes", spec := "sourceTypes", inPlace := ["internal/abi.NoEscape", "internal/bytealg.MakeNoZero"], unfollowed := true, recurses := true, named := ["flyover/flyoverlaw02.turned", "flyover/source.words", "internal/strconv.uint64pow10", "math/bits.deBruijn32tab", "math/bits.deBruijn64tab"], apart := false, laid := [("math/bits.deBruijn32tab", laid_math_bits_deBruijn32tab), ("math/bits.deBruijn64tab", laid_math_bits_deBruijn64tab), ("internal/strconv.uint64pow10", laid_internal_strconv_uint64pow10), ("flyover/source.words", laid_flyover_source_words), ("flyover/flyoverlaw02.turned", laid_flyover_flyoverlaw02_turned)] }
def SourceTypesSaid : Prop := sourceTypesRow.holds Tryz.pinned (OpenSpec.ofChange sourceTypesSpec)

/-- ITS FALSE NEIGHBOUR: 'it returns false'. Refute it at one input. -/
def sourceTypesWrong : ChangeSpec := { name := "sourceTypes", fn := fun _ => fun
  | [d1, d2] => { results := [.lit (.bool false)], args := [d1, d2] }
  | _ => none }
def SourceTypesWrongFalsely : Prop := sourceTypesRow.holds Tryz.pinned (OpenSpec.ofChange sourceTypesWrong)

/-- 'flyoverlaw02.SourceCut': WHATEVER THE INPUT: true; the input reads as it did. -/
def sourceCutSpec : ChangeSpec := { name := "sourceCut", fn := fun _ => fun
  | [d1, d2, d3] => { results := [.lit (.bool true)], args := [d1, d2, d3] }
  | _ => none }
def sourceCutRow : OpenClaim := { program := "ytjhjmncjidbieaagreatdoor", sum := "6907475ca7629b3eebb6dc86c4c1d77cf290f746dc436834c7f9b8488428de4c", func := "flyover/flyoverlaw02.SourceCut", spec := "sourceCut", inPlace := ["internal/abi.NoEscape", "internal/bytealg.MakeNoZero"], unfollowed := true, recurses := true, named := ["flyover/flyoverlaw02.turned", "flyover/source.words", "internal/strconv.uint64pow10", "math/bits.deBruijn32tab", "math/bits.deBruijn64tab"], apart := false, laid := [("math/bits.deBruijn32tab", laid_math_bits_deBruijn32tab), ("math/bits.deBruijn64tab", laid_math_bits_deBruijn64tab), ("internal/strconv.uint64pow10", laid_internal_strconv_uint64pow10), ("flyover/source.words", laid_flyover_source_words), ("flyover/flyoverlaw02.turned", laid_flyover_flyoverlaw02_turned)] }
def SourceCutSaid : Prop := sourceCutRow.holds Tryz.pinned (OpenSpec.ofChange sourceCutSpec)

/-- ITS FALSE NEIGHBOUR: 'it returns false'. Refute it at one input. -/
def sourceCutWrong : ChangeSpec := { name := "sourceCut", fn := fun _ => fun
  | [d1, d2, d3] => { results := [.lit (.bool false)], args := [d1, d2, d3] }
  | _ => none }
def SourceCutWrongFalsely : Prop := sourceCutRow.holds Tryz.pinned (OpenSpec.ofChange sourceCutWrong)

/-- 'flyoverlaw02.SourceTurned': WHATEVER THE INPUT: true; the input reads as it did. -/
def sourceTurnedSpec : ChangeSpec := { name := "sourceTurned", fn := fun _ => fun
  | [d1, d2] => { results := [.lit (.bool true)], args := [d1, d2] }
  | _ => none }
def sourceTurnedRow : OpenClaim := { program := "ytjhjmncjidbieaagreatdoor", sum := "6907475ca7629b3eebb6dc86c4c1d77cf290f746dc436834c7f9b8488428de4c", func := "flyover/flyoverlaw02.SourceTurned", spec := "sourceTurned", inPlace := ["internal/abi.NoEscape", "internal/bytealg.MakeNoZero"], unfollowed := true, recurses := true, named := ["flyover/flyoverlaw02.turned", "flyover/source.words", "internal/strconv.uint64pow10", "math/bits.deBruijn32tab", "math/bits.deBruijn64tab"], apart := false, laid := [("math/bits.deBruijn32tab", laid_math_bits_deBruijn32tab), ("math/bits.deBruijn64tab", laid_math_bits_deBruijn64tab), ("internal/strconv.uint64pow10", laid_internal_strconv_uint64pow10), ("flyover/source.words", laid_flyover_source_words), ("flyover/flyoverlaw02.turned", laid_flyover_flyoverlaw02_turned)] }
def SourceTurnedSaid : Prop := sourceTurnedRow.holds Tryz.pinned (OpenSpec.ofChange sourceTurnedSpec)

/-- ITS FALSE NEIGHBOUR: 'it returns false'. Refute it at one input. -/
def sourceTurnedWrong : ChangeSpec := { name := "sourceTurned", fn := fun _ => fun
  | [d1, d2] => { results := [.lit (.bool false)], args := [d1, d2] }
  | _ => none }
def SourceTurnedWrongFalsely : Prop := sourceTurnedRow.holds Tryz.pinned (OpenSpec.ofChange sourceTurnedWrong)

/-- 'flyoverlaw02.SourceFlights': WHATEVER THE INPUT: true; the input reads as it did. -/
def sourceFlightsSpec : ChangeSpec := { name := "sourceFlights", fn := fun _ => fun
  | [d1, d2, d3] => { results := [.lit (.bool true)], args := [d1, d2, d3] }
  | _ => none }
def sourceFlightsRow : OpenClaim := { program := "ytjhjmncjidbieaagreatdoor", sum := "6907475ca7629b3eebb6dc86c4c1d77cf290f746dc436834c7f9b8488428de4c", func := "flyover/flyoverlaw02.SourceFlights", spec := "sourceFlights", inPlace := ["internal/abi.NoEscape", "internal/bytealg.MakeNoZero"], unfollowed := true, recurses := true, named := ["flyover/flyoverlaw02.turned", "flyover/source.words", "internal/strconv.uint64pow10", "math/bits.deBruijn32tab", "math/bits.deBruijn64tab"], apart := false, laid := [("math/bits.deBruijn32tab", laid_math_bits_deBruijn32tab), ("math/bits.deBruijn64tab", laid_math_bits_deBruijn64tab), ("internal/strconv.uint64pow10", laid_internal_strconv_uint64pow10), ("flyover/source.words", laid_flyover_source_words), ("flyover/flyoverlaw02.turned", laid_flyover_flyoverlaw02_turned)] }
def SourceFlightsSaid : Prop := sourceFlightsRow.holds Tryz.pinned (OpenSpec.ofChange sourceFlightsSpec)

/-- ITS FALSE NEIGHBOUR: 'it returns false'. Refute it at one input. -/
def sourceFlightsWrong : ChangeSpec := { name := "sourceFlights", fn := fun _ => fun
  | [d1, d2, d3] => { results := [.lit (.bool false)], args := [d1, d2, d3] }
  | _ => none }
def SourceFlightsWrongFalsely : Prop := sourceFlightsRow.holds Tryz.pinned (OpenSpec.ofChange sourceFlightsWrong)

/-- 'flyoverlaw02.SourceTracks': WHATEVER THE INPUT: true; the input reads as it did. -/
def sourceTracksSpec : ChangeSpec := { name := "sourceTracks", fn := fun _ => fun
  | [d1, d2, d3] => { results := [.lit (.bool true)], args := [d1, d2, d3] }
  | _ => none }
def sourceTracksRow : OpenClaim := { program := "ytjhjmncjidbieaagreatdoor", sum := "6907475ca7629b3eebb6dc86c4c1d77cf290f746dc436834c7f9b8488428de4c", func := "flyover/flyoverlaw02.SourceTracks", spec := "sourceTracks", inPlace := ["internal/abi.NoEscape", "internal/bytealg.MakeNoZero"], unfollowed := true, recurses := true, named := ["flyover/flyoverlaw02.turned", "flyover/source.words", "internal/strconv.uint64pow10", "math/bits.deBruijn32tab", "math/bits.deBruijn64tab"], apart := false, laid := [("math/bits.deBruijn32tab", laid_math_bits_deBruijn32tab), ("math/bits.deBruijn64tab", laid_math_bits_deBruijn64tab), ("internal/strconv.uint64pow10", laid_internal_strconv_uint64pow10), ("flyover/source.words", laid_flyover_source_words), ("flyover/flyoverlaw02.turned", laid_flyover_flyoverlaw02_turned)] }
def SourceTracksSaid : Prop := sourceTracksRow.holds Tryz.pinned (OpenSpec.ofChange sourceTracksSpec)

/-- ITS FALSE NEIGHBOUR: 'it returns false'. Refute it at one input. -/
def sourceTracksWrong : ChangeSpec := { name := "sourceTracks", fn := fun _ => fun
  | [d1, d2, d3] => { results := [.lit (.bool false)], args := [d1, d2, d3] }
  | _ => none }
def SourceTracksWrongFalsely : Prop := sourceTracksRow.holds Tryz.pinned (OpenSpec.ofChange sourceTracksWrong)

/-- 'flyoverlaw02.SourceStrings': WHATEVER THE INPUT: true; the input reads as it did. -/
def sourceStringsSpec : ChangeSpec := { name := "sourceStrings", fn := fun _ => fun
  | [d1, d2] => { results := [.lit (.bool true)], args := [d1, d2] }
  | _ => none }
def sourceStringsRow : OpenClaim := { program := "ytjhjmncjidbieaagreatdoor", sum := "6907475ca7629b3eebb6dc86c4c1d77cf290f746dc436834c7f9b8488428de4c", func := "flyover/flyoverlaw02.SourceStrings", spec := "sourceStrings", inPlace := ["internal/abi.NoEscape", "internal/bytealg.MakeNoZero", "internal/bytealg.IndexByteString", "internal/bytealg.CountString", "internal/bytealg.IndexString"], unfollowed := true, recurses := true, named := ["flyover/flyoverlaw02.turned", "flyover/source.words", "internal/strconv.uint64pow10", "math/bits.deBruijn32tab", "math/bits.deBruijn64tab", "flyover/source.forms", "unicode/utf8.first", "unicode/utf8.acceptRanges", "internal/bytealg.MaxLen"], apart := false, laid := [("math/bits.deBruijn32tab", laid_math_bits_deBruijn32tab), ("math/bits.deBruijn64tab", laid_math_bits_deBruijn64tab), ("internal/strconv.uint64pow10", laid_internal_strconv_uint64pow10), ("unicode/utf8.acceptRanges", laid_unicode_utf8_acceptRanges), ("flyover/source.words", laid_flyover_source_words), ("flyover/source.forms", laid_flyover_source_forms), ("flyover/flyoverlaw02.turned", laid_flyover_flyoverlaw02_turned), ("unicode/utf8.first", laid_unicode_utf8_first)] }
def SourceStringsSaid : Prop := sourceStringsRow.holds Tryz.pinned (OpenSpec.ofChange sourceStringsSpec)

/-- ITS FALSE NEIGHBOUR: 'it returns false'. Refute it at one input. -/
def sourceStringsWrong : ChangeSpec := { name := "sourceStrings", fn := fun _ => fun
  | [d1, d2] => { results := [.lit (.bool false)], args := [d1, d2] }
  | _ => none }
def SourceStringsWrongFalsely : Prop := sourceStringsRow.holds Tryz.pinned (OpenSpec.ofChange sourceStringsWrong)

/-- 'flyoverlaw02.SourceKept': WHATEVER THE INPUT: true; the input reads as it did. -/
def sourceKeptSpec : ChangeSpec := { name := "sourceKept", fn := fun _ => fun
  | [d1, d2, d3] => { results := [.lit (.bool true)], args := [d1, d2, d3] }
  | _ => none }
def sourceKeptRow : OpenClaim := { program := "ytjhjmncjidbieaagreatdoor", sum := "6907475ca7629b3eebb6dc86c4c1d77cf290f746dc436834c7f9b8488428de4c", func := "flyover/flyoverlaw02.SourceKept", spec := "sourceKept", inPlace := ["internal/abi.NoEscape", "internal/bytealg.MakeNoZero", "internal/bytealg.IndexByteString", "internal/bytealg.CountString", "internal/bytealg.IndexString"], unfollowed := true, recurses := true, named := ["flyover/flyoverlaw02.turned", "flyover/source.words", "internal/strconv.uint64pow10", "math/bits.deBruijn32tab", "math/bits.deBruijn64tab", "flyover/source.forms", "unicode/utf8.first", "unicode/utf8.acceptRanges", "internal/bytealg.MaxLen"], apart := false, laid := [("math/bits.deBruijn32tab", laid_math_bits_deBruijn32tab), ("math/bits.deBruijn64tab", laid_math_bits_deBruijn64tab), ("internal/strconv.uint64pow10", laid_internal_strconv_uint64pow10), ("unicode/utf8.acceptRanges", laid_unicode_utf8_acceptRanges), ("flyover/source.words", laid_flyover_source_words), ("flyover/source.forms", laid_flyover_source_forms), ("flyover/flyoverlaw02.turned", laid_flyover_flyoverlaw02_turned), ("unicode/utf8.first", laid_unicode_utf8_first)] }
def SourceKeptSaid : Prop := sourceKeptRow.holds Tryz.pinned (OpenSpec.ofChange sourceKeptSpec)

/-- ITS FALSE NEIGHBOUR: 'it returns false'. Refute it at one input. -/
def sourceKeptWrong : ChangeSpec := { name := "sourceKept", fn := fun _ => fun
  | [d1, d2, d3] => { results := [.lit (.bool false)], args := [d1, d2, d3] }
  | _ => none }
def SourceKeptWrongFalsely : Prop := sourceKeptRow.holds Tryz.pinned (OpenSpec.ofChange sourceKeptWrong)

/- THE SECOND FORM. 'bulk': how many values and letters a reading holds, each counted each time it is reached (what is shared counts as often as it is met; a slice's spare places count too). A statement '..UptoSaid' is the law's where the arguments, and the package variables that the reading takes, are together of bulk at most 1048576: NARROWER than '..Said'. Prove '..Said' where nothing that the law and all that it calls make is longer than what came in: it says more and counts as full. Else prove '..UptoSaid'. A law counts once. -/
mutual
def uptoBulk {H : Type} : DataW H → Nat
  | .lit (.string bytes) => bytes.length + 1
  | .lit _ => 1
  | .nil => 1
  | .ptr d => uptoBulk d + 1
  | .slice elems spare => uptoBulkAll elems + uptoBulkAll spare + 1
  | .agg parts => uptoBulkAll parts + 1
  | .iface _ d => uptoBulk d + 1
  | .map entries => uptoBulkEntries entries + 1
  | .held _ => 1
def uptoBulkAll {H : Type} : List (DataW H) → Nat
  | [] => 0
  | d :: r => uptoBulk d + uptoBulkAll r
def uptoBulkEntries {H : Type} : List (Lit × DataW H) → Nat
  | [] => 0
  | x :: r => uptoBulkEntry x + uptoBulkEntries r
def uptoBulkEntry {H : Type} : Lit × DataW H → Nat
  | (.string bytes, d) => bytes.length + uptoBulk d + 1
  | (_, d) => uptoBulk d + 1
 end
def uptoSmall : (H : Type) → List (DataW H) → Bool := fun _ ds => decide (uptoBulkAll ds ≤ 1048576)
def OpenSpec.upto (s : _root_.Go.ChangeSpec) : _root_.Go.OpenSpec := { _root_.Go.OpenSpec.ofChange s with cond := some uptoSmall }

/-- 'flyoverlaw02.SourcePaths', WHERE WHAT IT READS IS OF BULK AT MOST 1048576: true; the input reads as it did. -/
def sourcePathsUptoRow : OpenClaim := { program := "ytjhjmncjidbieaagreatdoor", sum := "6907475ca7629b3eebb6dc86c4c1d77cf290f746dc436834c7f9b8488428de4c", func := "flyover/flyoverlaw02.SourcePaths", spec := "sourcePaths", inPlace := ["internal/abi.NoEscape", "internal/bytealg.MakeNoZero"], unfollowed := true, recurses := true, named := ["flyover/flyoverlaw02.turned", "flyover/source.words", "internal/strconv.uint64pow10", "math/bits.deBruijn32tab", "math/bits.deBruijn64tab"], apart := false, laid := [("math/bits.deBruijn32tab", laid_math_bits_deBruijn32tab), ("math/bits.deBruijn64tab", laid_math_bits_deBruijn64tab), ("internal/strconv.uint64pow10", laid_internal_strconv_uint64pow10), ("flyover/source.words", laid_flyover_source_words), ("flyover/flyoverlaw02.turned", laid_flyover_flyoverlaw02_turned)], narrowed := true }
def SourcePathsUptoSaid : Prop := sourcePathsUptoRow.holds Tryz.pinned (OpenSpec.upto sourcePathsSpec)

/-- 'flyoverlaw02.SourceExposures', WHERE WHAT IT READS IS OF BULK AT MOST 1048576: true; the input reads as it did. -/
def sourceExposuresUptoRow : OpenClaim := { program := "ytjhjmncjidbieaagreatdoor", sum := "6907475ca7629b3eebb6dc86c4c1d77cf290f746dc436834c7f9b8488428de4c", func := "flyover/flyoverlaw02.SourceExposures", spec := "sourceExposures", inPlace := ["internal/abi.NoEscape", "internal/bytealg.MakeNoZero"], unfollowed := true, recurses := true, named := ["flyover/flyoverlaw02.turned", "flyover/source.words", "internal/strconv.uint64pow10", "math/bits.deBruijn32tab", "math/bits.deBruijn64tab"], apart := false, laid := [("math/bits.deBruijn32tab", laid_math_bits_deBruijn32tab), ("math/bits.deBruijn64tab", laid_math_bits_deBruijn64tab), ("internal/strconv.uint64pow10", laid_internal_strconv_uint64pow10), ("flyover/source.words", laid_flyover_source_words), ("flyover/flyoverlaw02.turned", laid_flyover_flyoverlaw02_turned)], narrowed := true }
def SourceExposuresUptoSaid : Prop := sourceExposuresUptoRow.holds Tryz.pinned (OpenSpec.upto sourceExposuresSpec)

/-- 'flyoverlaw02.SourceFlies', WHERE WHAT IT READS IS OF BULK AT MOST 1048576: true; the input reads as it did. -/
def sourceFliesUptoRow : OpenClaim := { program := "ytjhjmncjidbieaagreatdoor", sum := "6907475ca7629b3eebb6dc86c4c1d77cf290f746dc436834c7f9b8488428de4c", func := "flyover/flyoverlaw02.SourceFlies", spec := "sourceFlies", inPlace := ["internal/abi.NoEscape", "internal/bytealg.MakeNoZero"], unfollowed := true, recurses := true, named := ["flyover/flyoverlaw02.turned", "flyover/source.words", "internal/strconv.uint64pow10", "math/bits.deBruijn32tab", "math/bits.deBruijn64tab"], apart := false, laid := [("math/bits.deBruijn32tab", laid_math_bits_deBruijn32tab), ("math/bits.deBruijn64tab", laid_math_bits_deBruijn64tab), ("internal/strconv.uint64pow10", laid_internal_strconv_uint64pow10), ("flyover/source.words", laid_flyover_source_words), ("flyover/flyoverlaw02.turned", laid_flyover_flyoverlaw02_turned)], narrowed := true }
def SourceFliesUptoSaid : Prop := sourceFliesUptoRow.holds Tryz.pinned (OpenSpec.upto sourceFliesSpec)

/-- 'flyoverlaw02.SourceTypes', WHERE WHAT IT READS IS OF BULK AT MOST 1048576: true; the input reads as it did. -/
def sourceTypesUptoRow : OpenClaim := { program := "ytjhjmncjidbieaagreatdoor", sum := "6907475ca7629b3eebb6dc86c4c1d77cf290f746dc436834c7f9b8488428de4c", func := "flyover/flyoverlaw02.SourceTypes", spec := "sourceTypes", inPlace := ["internal/abi.NoEscape", "internal/bytealg.MakeNoZero"], unfollowed := true, recurses := true, named := ["flyover/flyoverlaw02.turned", "flyover/source.words", "internal/strconv.uint64pow10", "math/bits.deBruijn32tab", "math/bits.deBruijn64tab"], apart := false, laid := [("math/bits.deBruijn32tab", laid_math_bits_deBruijn32tab), ("math/bits.deBruijn64tab", laid_math_bits_deBruijn64tab), ("internal/strconv.uint64pow10", laid_internal_strconv_uint64pow10), ("flyover/source.words", laid_flyover_source_words), ("flyover/flyoverlaw02.turned", laid_flyover_flyoverlaw02_turned)], narrowed := true }
def SourceTypesUptoSaid : Prop := sourceTypesUptoRow.holds Tryz.pinned (OpenSpec.upto sourceTypesSpec)

/-- 'flyoverlaw02.SourceCut', WHERE WHAT IT READS IS OF BULK AT MOST 1048576: true; the input reads as it did. -/
def sourceCutUptoRow : OpenClaim := { program := "ytjhjmncjidbieaagreatdoor", sum := "6907475ca7629b3eebb6dc86c4c1d77cf290f746dc436834c7f9b8488428de4c", func := "flyover/flyoverlaw02.SourceCut", spec := "sourceCut", inPlace := ["internal/abi.NoEscape", "internal/bytealg.MakeNoZero"], unfollowed := true, recurses := true, named := ["flyover/flyoverlaw02.turned", "flyover/source.words", "internal/strconv.uint64pow10", "math/bits.deBruijn32tab", "math/bits.deBruijn64tab"], apart := false, laid := [("math/bits.deBruijn32tab", laid_math_bits_deBruijn32tab), ("math/bits.deBruijn64tab", laid_math_bits_deBruijn64tab), ("internal/strconv.uint64pow10", laid_internal_strconv_uint64pow10), ("flyover/source.words", laid_flyover_source_words), ("flyover/flyoverlaw02.turned", laid_flyover_flyoverlaw02_turned)], narrowed := true }
def SourceCutUptoSaid : Prop := sourceCutUptoRow.holds Tryz.pinned (OpenSpec.upto sourceCutSpec)

/-- 'flyoverlaw02.SourceTurned', WHERE WHAT IT READS IS OF BULK AT MOST 1048576: true; the input reads as it did. -/
def sourceTurnedUptoRow : OpenClaim := { program := "ytjhjmncjidbieaagreatdoor", sum := "6907475ca7629b3eebb6dc86c4c1d77cf290f746dc436834c7f9b8488428de4c", func := "flyover/flyoverlaw02.SourceTurned", spec := "sourceTurned", inPlace := ["internal/abi.NoEscape", "internal/bytealg.MakeNoZero"], unfollowed := true, recurses := true, named := ["flyover/flyoverlaw02.turned", "flyover/source.words", "internal/strconv.uint64pow10", "math/bits.deBruijn32tab", "math/bits.deBruijn64tab"], apart := false, laid := [("math/bits.deBruijn32tab", laid_math_bits_deBruijn32tab), ("math/bits.deBruijn64tab", laid_math_bits_deBruijn64tab), ("internal/strconv.uint64pow10", laid_internal_strconv_uint64pow10), ("flyover/source.words", laid_flyover_source_words), ("flyover/flyoverlaw02.turned", laid_flyover_flyoverlaw02_turned)], narrowed := true }
def SourceTurnedUptoSaid : Prop := sourceTurnedUptoRow.holds Tryz.pinned (OpenSpec.upto sourceTurnedSpec)

/-- 'flyoverlaw02.SourceFlights', WHERE WHAT IT READS IS OF BULK AT MOST 1048576: true; the input reads as it did. -/
def sourceFlightsUptoRow : OpenClaim := { program := "ytjhjmncjidbieaagreatdoor", sum := "6907475ca7629b3eebb6dc86c4c1d77cf290f746dc436834c7f9b8488428de4c", func := "flyover/flyoverlaw02.SourceFlights", spec := "sourceFlights", inPlace := ["internal/abi.NoEscape", "internal/bytealg.MakeNoZero"], unfollowed := true, recurses := true, named := ["flyover/flyoverlaw02.turned", "flyover/source.words", "internal/strconv.uint64pow10", "math/bits.deBruijn32tab", "math/bits.deBruijn64tab"], apart := false, laid := [("math/bits.deBruijn32tab", laid_math_bits_deBruijn32tab), ("math/bits.deBruijn64tab", laid_math_bits_deBruijn64tab), ("internal/strconv.uint64pow10", laid_internal_strconv_uint64pow10), ("flyover/source.words", laid_flyover_source_words), ("flyover/flyoverlaw02.turned", laid_flyover_flyoverlaw02_turned)], narrowed := true }
def SourceFlightsUptoSaid : Prop := sourceFlightsUptoRow.holds Tryz.pinned (OpenSpec.upto sourceFlightsSpec)

/-- 'flyoverlaw02.SourceTracks', WHERE WHAT IT READS IS OF BULK AT MOST 1048576: true; the input reads as it did. -/
def sourceTracksUptoRow : OpenClaim := { program := "ytjhjmncjidbieaagreatdoor", sum := "6907475ca7629b3eebb6dc86c4c1d77cf290f746dc436834c7f9b8488428de4c", func := "flyover/flyoverlaw02.SourceTracks", spec := "sourceTracks", inPlace := ["internal/abi.NoEscape", "internal/bytealg.MakeNoZero"], unfollowed := true, recurses := true, named := ["flyover/flyoverlaw02.turned", "flyover/source.words", "internal/strconv.uint64pow10", "math/bits.deBruijn32tab", "math/bits.deBruijn64tab"], apart := false, laid := [("math/bits.deBruijn32tab", laid_math_bits_deBruijn32tab), ("math/bits.deBruijn64tab", laid_math_bits_deBruijn64tab), ("internal/strconv.uint64pow10", laid_internal_strconv_uint64pow10), ("flyover/source.words", laid_flyover_source_words), ("flyover/flyoverlaw02.turned", laid_flyover_flyoverlaw02_turned)], narrowed := true }
def SourceTracksUptoSaid : Prop := sourceTracksUptoRow.holds Tryz.pinned (OpenSpec.upto sourceTracksSpec)

/-- 'flyoverlaw02.SourceStrings', WHERE WHAT IT READS IS OF BULK AT MOST 1048576: true; the input reads as it did. -/
def sourceStringsUptoRow : OpenClaim := { program := "ytjhjmncjidbieaagreatdoor", sum := "6907475ca7629b3eebb6dc86c4c1d77cf290f746dc436834c7f9b8488428de4c", func := "flyover/flyoverlaw02.SourceStrings", spec := "sourceStrings", inPlace := ["internal/abi.NoEscape", "internal/bytealg.MakeNoZero", "internal/bytealg.IndexByteString", "internal/bytealg.CountString", "internal/bytealg.IndexString"], unfollowed := true, recurses := true, named := ["flyover/flyoverlaw02.turned", "flyover/source.words", "internal/strconv.uint64pow10", "math/bits.deBruijn32tab", "math/bits.deBruijn64tab", "flyover/source.forms", "unicode/utf8.first", "unicode/utf8.acceptRanges", "internal/bytealg.MaxLen"], apart := false, laid := [("math/bits.deBruijn32tab", laid_math_bits_deBruijn32tab), ("math/bits.deBruijn64tab", laid_math_bits_deBruijn64tab), ("internal/strconv.uint64pow10", laid_internal_strconv_uint64pow10), ("unicode/utf8.acceptRanges", laid_unicode_utf8_acceptRanges), ("flyover/source.words", laid_flyover_source_words), ("flyover/source.forms", laid_flyover_source_forms), ("flyover/flyoverlaw02.turned", laid_flyover_flyoverlaw02_turned), ("unicode/utf8.first", laid_unicode_utf8_first)], narrowed := true }
def SourceStringsUptoSaid : Prop := sourceStringsUptoRow.holds Tryz.pinned (OpenSpec.upto sourceStringsSpec)

/-- 'flyoverlaw02.SourceKept', WHERE WHAT IT READS IS OF BULK AT MOST 1048576: true; the input reads as it did. -/
def sourceKeptUptoRow : OpenClaim := { program := "ytjhjmncjidbieaagreatdoor", sum := "6907475ca7629b3eebb6dc86c4c1d77cf290f746dc436834c7f9b8488428de4c", func := "flyover/flyoverlaw02.SourceKept", spec := "sourceKept", inPlace := ["internal/abi.NoEscape", "internal/bytealg.MakeNoZero", "internal/bytealg.IndexByteString", "internal/bytealg.CountString", "internal/bytealg.IndexString"], unfollowed := true, recurses := true, named := ["flyover/flyoverlaw02.turned", "flyover/source.words", "internal/strconv.uint64pow10", "math/bits.deBruijn32tab", "math/bits.deBruijn64tab", "flyover/source.forms", "unicode/utf8.first", "unicode/utf8.acceptRanges", "internal/bytealg.MaxLen"], apart := false, laid := [("math/bits.deBruijn32tab", laid_math_bits_deBruijn32tab), ("math/bits.deBruijn64tab", laid_math_bits_deBruijn64tab), ("internal/strconv.uint64pow10", laid_internal_strconv_uint64pow10), ("unicode/utf8.acceptRanges", laid_unicode_utf8_acceptRanges), ("flyover/source.words", laid_flyover_source_words), ("flyover/source.forms", laid_flyover_source_forms), ("flyover/flyoverlaw02.turned", laid_flyover_flyoverlaw02_turned), ("unicode/utf8.first", laid_unicode_utf8_first)], narrowed := true }
def SourceKeptUptoSaid : Prop := sourceKeptUptoRow.holds Tryz.pinned (OpenSpec.upto sourceKeptSpec)

end Rows
end Go.Proofs.YtjhjmncjidbieaaGreatDoor
