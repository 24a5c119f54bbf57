/-
  DERIVED. GIVEN WITH THE SEED: THE CARDS: each row of YtjhjmncjidbieaaGreatDoorRows.lean that lists a variable, with what it lists TIED to the program's text (the seventh form; the later family's looks); each row that meets fmt, with fmt's text TOLD by the authors' own Lean function (tested against real Go, not proved from fmt's source: count such statements apart). THE CARD IS WHAT COUNTS. Prove the row's statement (the work); the ties are given (YtjhjmncjidbieaaGreatDoorTie.lean); close each card by the builder's one call (the guide's Derived/Test/ToyasCard.lean, 'card_holds'). Laid BY PROGRAM, IN A SANDBOX (cutbox-door.mjs). By AI agents, Wed Nov 11 2026. No macro, syntax, notation, axiom, sorry.
-/
import Derived.Test.YtjhjmncjidbieaaGreatDoorRows
import GoSem.ClaimSeven
namespace Go.Proofs.YtjhjmncjidbieaaGreatDoor
namespace Rows

/-- THE TIED CARD OF 'flyoverlaw02.SourcePaths'. -/
def sourcePathsCard : Claim7 := { stood := { row := sourcePathsRow, standIns := [], harness := (true, "2eff5a8d10ee001d6dd469ae152b6610ee34d8acc09eeeb094ae4729cfefb337"), looks := false }, kinds := [], alts := [], laidByText := true, laidKinds := [.data, .data, .data, .data, .data], laidTests := true, laidLooks := .later }
def SourcePathsCardSaid : Prop := Claim7.holds Tryz.pinned (.plain (OpenSpec.ofChange sourcePathsSpec)) sourcePathsCard

/-- THE TIED CARD OF 'flyoverlaw02.SourceExposures'. -/
def sourceExposuresCard : Claim7 := { stood := { row := sourceExposuresRow, standIns := [], harness := (true, "2eff5a8d10ee001d6dd469ae152b6610ee34d8acc09eeeb094ae4729cfefb337"), looks := false }, kinds := [], alts := [], laidByText := true, laidKinds := [.data, .data, .data, .data, .data], laidTests := true, laidLooks := .later }
def SourceExposuresCardSaid : Prop := Claim7.holds Tryz.pinned (.plain (OpenSpec.ofChange sourceExposuresSpec)) sourceExposuresCard

/-- THE TIED CARD OF 'flyoverlaw02.SourceFlies'. -/
def sourceFliesCard : Claim7 := { stood := { row := sourceFliesRow, standIns := [], harness := (true, "2eff5a8d10ee001d6dd469ae152b6610ee34d8acc09eeeb094ae4729cfefb337"), looks := false }, kinds := [], alts := [], laidByText := true, laidKinds := [.data, .data, .data, .data, .data], laidTests := true, laidLooks := .later }
def SourceFliesCardSaid : Prop := Claim7.holds Tryz.pinned (.plain (OpenSpec.ofChange sourceFliesSpec)) sourceFliesCard

/-- THE TIED CARD OF 'flyoverlaw02.SourceTypes'. -/
def sourceTypesCard : Claim7 := { stood := { row := sourceTypesRow, standIns := [], harness := (true, "2eff5a8d10ee001d6dd469ae152b6610ee34d8acc09eeeb094ae4729cfefb337"), looks := false }, kinds := [], alts := [], laidByText := true, laidKinds := [.data, .data, .data, .data, .data], laidTests := true, laidLooks := .later }
def SourceTypesCardSaid : Prop := Claim7.holds Tryz.pinned (.plain (OpenSpec.ofChange sourceTypesSpec)) sourceTypesCard

/-- THE TIED CARD OF 'flyoverlaw02.SourceCut'. -/
def sourceCutCard : Claim7 := { stood := { row := sourceCutRow, standIns := [], harness := (true, "2eff5a8d10ee001d6dd469ae152b6610ee34d8acc09eeeb094ae4729cfefb337"), looks := false }, kinds := [], alts := [], laidByText := true, laidKinds := [.data, .data, .data, .data, .data], laidTests := true, laidLooks := .later }
def SourceCutCardSaid : Prop := Claim7.holds Tryz.pinned (.plain (OpenSpec.ofChange sourceCutSpec)) sourceCutCard

/-- THE TIED CARD OF 'flyoverlaw02.SourceTurned'. -/
def sourceTurnedCard : Claim7 := { stood := { row := sourceTurnedRow, standIns := [], harness := (true, "2eff5a8d10ee001d6dd469ae152b6610ee34d8acc09eeeb094ae4729cfefb337"), looks := false }, kinds := [], alts := [], laidByText := true, laidKinds := [.data, .data, .data, .data, .data], laidTests := true, laidLooks := .later }
def SourceTurnedCardSaid : Prop := Claim7.holds Tryz.pinned (.plain (OpenSpec.ofChange sourceTurnedSpec)) sourceTurnedCard

/-- THE TIED CARD OF 'flyoverlaw02.SourceFlights'. -/
def sourceFlightsCard : Claim7 := { stood := { row := sourceFlightsRow, standIns := [], harness := (true, "2eff5a8d10ee001d6dd469ae152b6610ee34d8acc09eeeb094ae4729cfefb337"), looks := false }, kinds := [], alts := [], laidByText := true, laidKinds := [.data, .data, .data, .data, .data], laidTests := true, laidLooks := .later }
def SourceFlightsCardSaid : Prop := Claim7.holds Tryz.pinned (.plain (OpenSpec.ofChange sourceFlightsSpec)) sourceFlightsCard

/-- THE TIED CARD OF 'flyoverlaw02.SourceTracks'. -/
def sourceTracksCard : Claim7 := { stood := { row := sourceTracksRow, standIns := [], harness := (true, "2eff5a8d10ee001d6dd469ae152b6610ee34d8acc09eeeb094ae4729cfefb337"), looks := false }, kinds := [], alts := [], laidByText := true, laidKinds := [.data, .data, .data, .data, .data], laidTests := true, laidLooks := .later }
def SourceTracksCardSaid : Prop := Claim7.holds Tryz.pinned (.plain (OpenSpec.ofChange sourceTracksSpec)) sourceTracksCard

/-- THE TIED CARD OF 'flyoverlaw02.SourceStrings'. -/
def sourceStringsCard : Claim7 := { stood := { row := sourceStringsRow, standIns := [], harness := (true, "2eff5a8d10ee001d6dd469ae152b6610ee34d8acc09eeeb094ae4729cfefb337"), looks := false }, kinds := [], alts := [], laidByText := true, laidKinds := [.data, .data, .data, .data, .data, .funcs, .data, .pinned], laidTests := true, laidLooks := .later }
def SourceStringsCardSaid : Prop := Claim7.holds Tryz.pinned (.plain (OpenSpec.ofChange sourceStringsSpec)) sourceStringsCard

/-- THE TIED CARD OF 'flyoverlaw02.SourceKept'. -/
def sourceKeptCard : Claim7 := { stood := { row := sourceKeptRow, standIns := [], harness := (true, "2eff5a8d10ee001d6dd469ae152b6610ee34d8acc09eeeb094ae4729cfefb337"), looks := false }, kinds := [], alts := [], laidByText := true, laidKinds := [.data, .data, .data, .data, .data, .funcs, .data, .pinned], laidTests := true, laidLooks := .later }
def SourceKeptCardSaid : Prop := Claim7.holds Tryz.pinned (.plain (OpenSpec.ofChange sourceKeptSpec)) sourceKeptCard

/-- THE SECOND FORM's CARD OF 'flyoverlaw02.SourcePaths'. -/
def sourcePathsUptoCard : Claim7 := { stood := { row := sourcePathsUptoRow, standIns := [], harness := (true, "2eff5a8d10ee001d6dd469ae152b6610ee34d8acc09eeeb094ae4729cfefb337"), looks := false }, kinds := [], alts := [], laidByText := true, laidKinds := [.data, .data, .data, .data, .data], laidTests := true, laidLooks := .later }
def SourcePathsUptoCardSaid : Prop := Claim7.holds Tryz.pinned (.plain (OpenSpec.upto sourcePathsSpec)) sourcePathsUptoCard

/-- THE SECOND FORM's CARD OF 'flyoverlaw02.SourceExposures'. -/
def sourceExposuresUptoCard : Claim7 := { stood := { row := sourceExposuresUptoRow, standIns := [], harness := (true, "2eff5a8d10ee001d6dd469ae152b6610ee34d8acc09eeeb094ae4729cfefb337"), looks := false }, kinds := [], alts := [], laidByText := true, laidKinds := [.data, .data, .data, .data, .data], laidTests := true, laidLooks := .later }
def SourceExposuresUptoCardSaid : Prop := Claim7.holds Tryz.pinned (.plain (OpenSpec.upto sourceExposuresSpec)) sourceExposuresUptoCard

/-- THE SECOND FORM's CARD OF 'flyoverlaw02.SourceFlies'. -/
def sourceFliesUptoCard : Claim7 := { stood := { row := sourceFliesUptoRow, standIns := [], harness := (true, "2eff5a8d10ee001d6dd469ae152b6610ee34d8acc09eeeb094ae4729cfefb337"), looks := false }, kinds := [], alts := [], laidByText := true, laidKinds := [.data, .data, .data, .data, .data], laidTests := true, laidLooks := .later }
def SourceFliesUptoCardSaid : Prop := Claim7.holds Tryz.pinned (.plain (OpenSpec.upto sourceFliesSpec)) sourceFliesUptoCard

/-- THE SECOND FORM's CARD OF 'flyoverlaw02.SourceTypes'. -/
def sourceTypesUptoCard : Claim7 := { stood := { row := sourceTypesUptoRow, standIns := [], harness := (true, "2eff5a8d10ee001d6dd469ae152b6610ee34d8acc09eeeb094ae4729cfefb337"), looks := false }, kinds := [], alts := [], laidByText := true, laidKinds := [.data, .data, .data, .data, .data], laidTests := true, laidLooks := .later }
def SourceTypesUptoCardSaid : Prop := Claim7.holds Tryz.pinned (.plain (OpenSpec.upto sourceTypesSpec)) sourceTypesUptoCard

/-- THE SECOND FORM's CARD OF 'flyoverlaw02.SourceCut'. -/
def sourceCutUptoCard : Claim7 := { stood := { row := sourceCutUptoRow, standIns := [], harness := (true, "2eff5a8d10ee001d6dd469ae152b6610ee34d8acc09eeeb094ae4729cfefb337"), looks := false }, kinds := [], alts := [], laidByText := true, laidKinds := [.data, .data, .data, .data, .data], laidTests := true, laidLooks := .later }
def SourceCutUptoCardSaid : Prop := Claim7.holds Tryz.pinned (.plain (OpenSpec.upto sourceCutSpec)) sourceCutUptoCard

/-- THE SECOND FORM's CARD OF 'flyoverlaw02.SourceTurned'. -/
def sourceTurnedUptoCard : Claim7 := { stood := { row := sourceTurnedUptoRow, standIns := [], harness := (true, "2eff5a8d10ee001d6dd469ae152b6610ee34d8acc09eeeb094ae4729cfefb337"), looks := false }, kinds := [], alts := [], laidByText := true, laidKinds := [.data, .data, .data, .data, .data], laidTests := true, laidLooks := .later }
def SourceTurnedUptoCardSaid : Prop := Claim7.holds Tryz.pinned (.plain (OpenSpec.upto sourceTurnedSpec)) sourceTurnedUptoCard

/-- THE SECOND FORM's CARD OF 'flyoverlaw02.SourceFlights'. -/
def sourceFlightsUptoCard : Claim7 := { stood := { row := sourceFlightsUptoRow, standIns := [], harness := (true, "2eff5a8d10ee001d6dd469ae152b6610ee34d8acc09eeeb094ae4729cfefb337"), looks := false }, kinds := [], alts := [], laidByText := true, laidKinds := [.data, .data, .data, .data, .data], laidTests := true, laidLooks := .later }
def SourceFlightsUptoCardSaid : Prop := Claim7.holds Tryz.pinned (.plain (OpenSpec.upto sourceFlightsSpec)) sourceFlightsUptoCard

/-- THE SECOND FORM's CARD OF 'flyoverlaw02.SourceTracks'. -/
def sourceTracksUptoCard : Claim7 := { stood := { row := sourceTracksUptoRow, standIns := [], harness := (true, "2eff5a8d10ee001d6dd469ae152b6610ee34d8acc09eeeb094ae4729cfefb337"), looks := false }, kinds := [], alts := [], laidByText := true, laidKinds := [.data, .data, .data, .data, .data], laidTests := true, laidLooks := .later }
def SourceTracksUptoCardSaid : Prop := Claim7.holds Tryz.pinned (.plain (OpenSpec.upto sourceTracksSpec)) sourceTracksUptoCard

/-- THE SECOND FORM's CARD OF 'flyoverlaw02.SourceStrings'. -/
def sourceStringsUptoCard : Claim7 := { stood := { row := sourceStringsUptoRow, standIns := [], harness := (true, "2eff5a8d10ee001d6dd469ae152b6610ee34d8acc09eeeb094ae4729cfefb337"), looks := false }, kinds := [], alts := [], laidByText := true, laidKinds := [.data, .data, .data, .data, .data, .funcs, .data, .pinned], laidTests := true, laidLooks := .later }
def SourceStringsUptoCardSaid : Prop := Claim7.holds Tryz.pinned (.plain (OpenSpec.upto sourceStringsSpec)) sourceStringsUptoCard

/-- THE SECOND FORM's CARD OF 'flyoverlaw02.SourceKept'. -/
def sourceKeptUptoCard : Claim7 := { stood := { row := sourceKeptUptoRow, standIns := [], harness := (true, "2eff5a8d10ee001d6dd469ae152b6610ee34d8acc09eeeb094ae4729cfefb337"), looks := false }, kinds := [], alts := [], laidByText := true, laidKinds := [.data, .data, .data, .data, .data, .funcs, .data, .pinned], laidTests := true, laidLooks := .later }
def SourceKeptUptoCardSaid : Prop := Claim7.holds Tryz.pinned (.plain (OpenSpec.upto sourceKeptSpec)) sourceKeptUptoCard
end Rows
end Go.Proofs.YtjhjmncjidbieaaGreatDoor
