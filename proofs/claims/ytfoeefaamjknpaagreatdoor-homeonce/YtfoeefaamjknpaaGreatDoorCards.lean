/-
  DERIVED. GIVEN WITH THE SEED: THE CARDS: each row of YtfoeefaamjknpaaGreatDoorRows.lean that lists a variable, with what it lists TIED to the program's text (the seventh form; the later family's looks); each row that meets fmt, with fmt's text TOLD by the authors' own Lean function (tested against real Go, not proved from fmt's source: count such statements apart). THE CARD IS WHAT COUNTS. Prove the row's statement (the work); the ties are given (YtfoeefaamjknpaaGreatDoorTie.lean); close each card by the builder's one call (the guide's Derived/Test/ToyasCard.lean, 'card_holds'). Laid BY PROGRAM, IN A SANDBOX (cutbox-door.mjs). By AI agents, Wed Nov 11 2026. No macro, syntax, notation, axiom, sorry.
-/
import Derived.Test.YtfoeefaamjknpaaGreatDoorRows
import GoSem.ClaimSeven
namespace Go.Proofs.YtfoeefaamjknpaaGreatDoor
namespace Rows

/-- THE TIED CARD OF 'flyoverlaw08.HomeWindows'. -/
def homeWindowsCard : Claim7 := { stood := { row := homeWindowsRow, standIns := [], harness := (true, "92193935397b5a87bb9711b5489e958414a598b7d765f2bc372f27e1ae7e9198"), looks := false }, kinds := [], alts := [], laidByText := true, laidKinds := [.data, .data, .data, .data, .data, .data, .pinned], laidTests := true, laidLooks := .later }
def HomeWindowsCardSaid : Prop := Claim7.holds Tryz.pinned (.plain (OpenSpec.ofChange homeWindowsSpec)) homeWindowsCard

/-- THE TIED CARD OF 'flyoverlaw08.HomeWorks'. -/
def homeWorksCard : Claim7 := { stood := { row := homeWorksRow, standIns := [], harness := (true, "92193935397b5a87bb9711b5489e958414a598b7d765f2bc372f27e1ae7e9198"), looks := false }, kinds := [], alts := [], laidByText := true, laidKinds := [.data, .data, .data, .data, .data, .data, .pinned], laidTests := true, laidLooks := .later }
def HomeWorksCardSaid : Prop := Claim7.holds Tryz.pinned (.plain (OpenSpec.ofChange homeWorksSpec)) homeWorksCard

/-- THE TIED CARD OF 'flyoverlaw08.HomeZones'. -/
def homeZonesCard : Claim7 := { stood := { row := homeZonesRow, standIns := [], harness := (true, "92193935397b5a87bb9711b5489e958414a598b7d765f2bc372f27e1ae7e9198"), looks := false }, kinds := [], alts := [], laidByText := true, laidKinds := [.data, .data, .data, .data, .data, .data, .pinned], laidTests := true, laidLooks := .later }
def HomeZonesCardSaid : Prop := Claim7.holds Tryz.pinned (.plain (OpenSpec.ofChange homeZonesSpec)) homeZonesCard

/-- THE TIED CARD OF 'flyoverlaw08.HomeOffers'. -/
def homeOffersCard : Claim7 := { stood := { row := homeOffersRow, standIns := [], harness := (true, "92193935397b5a87bb9711b5489e958414a598b7d765f2bc372f27e1ae7e9198"), looks := false }, kinds := [], alts := [], laidByText := true, laidKinds := [.data, .data, .data, .data, .data, .data, .pinned], laidTests := true, laidLooks := .later }
def HomeOffersCardSaid : Prop := Claim7.holds Tryz.pinned (.plain (OpenSpec.ofChange homeOffersSpec)) homeOffersCard

/-- THE TIED CARD OF 'flyoverlaw08.HomeFunds'. -/
def homeFundsCard : Claim7 := { stood := { row := homeFundsRow, standIns := [], harness := (true, "92193935397b5a87bb9711b5489e958414a598b7d765f2bc372f27e1ae7e9198"), looks := false }, kinds := [], alts := [], laidByText := true, laidKinds := [.data, .data, .data, .data, .data, .data, .pinned], laidTests := true, laidLooks := .later }
def HomeFundsCardSaid : Prop := Claim7.holds Tryz.pinned (.plain (OpenSpec.ofChange homeFundsSpec)) homeFundsCard

/-- THE TIED CARD OF 'flyoverlaw08.HomeComplaints'. -/
def homeComplaintsCard : Claim7 := { stood := { row := homeComplaintsRow, standIns := [], harness := (true, "92193935397b5a87bb9711b5489e958414a598b7d765f2bc372f27e1ae7e9198"), looks := false }, kinds := [], alts := [], laidByText := true, laidKinds := [.data, .data, .data, .data, .data, .data, .pinned], laidTests := true, laidLooks := .later }
def HomeComplaintsCardSaid : Prop := Claim7.holds Tryz.pinned (.plain (OpenSpec.ofChange homeComplaintsSpec)) homeComplaintsCard

/-- THE TIED CARD OF 'flyoverlaw08.HomeStrings'. -/
def homeStringsCard : Claim7 := { stood := { row := homeStringsRow, standIns := [], harness := (true, "92193935397b5a87bb9711b5489e958414a598b7d765f2bc372f27e1ae7e9198"), looks := false }, kinds := [], alts := [], laidByText := true, laidKinds := [.data, .data, .data, .data, .data, .data, .pinned], laidTests := true, laidLooks := .later }
def HomeStringsCardSaid : Prop := Claim7.holds Tryz.pinned (.plain (OpenSpec.ofChange homeStringsSpec)) homeStringsCard

/-- THE TIED CARD OF 'flyoverlaw08.HomeLeast'. -/
def homeLeastCard : Claim7 := { stood := { row := homeLeastRow, standIns := [], harness := (true, "92193935397b5a87bb9711b5489e958414a598b7d765f2bc372f27e1ae7e9198"), looks := false }, kinds := [], alts := [], laidByText := true, laidKinds := [.data, .data, .data, .data, .data, .data, .pinned], laidTests := true, laidLooks := .later }
def HomeLeastCardSaid : Prop := Claim7.holds Tryz.pinned (.plain (OpenSpec.ofChange homeLeastSpec)) homeLeastCard

/-- THE TIED CARD OF 'flyoverlaw08.HomeOnce'. -/
def homeOnceCard : Claim7 := { stood := { row := homeOnceRow, standIns := [], harness := (true, "92193935397b5a87bb9711b5489e958414a598b7d765f2bc372f27e1ae7e9198"), looks := false }, kinds := [], alts := [], laidByText := true, laidKinds := [.data, .data, .data, .data, .data, .data, .pinned], laidTests := true, laidLooks := .later }
def HomeOnceCardSaid : Prop := Claim7.holds Tryz.pinned (.plain (OpenSpec.ofChange homeOnceSpec)) homeOnceCard

/-- THE TIED CARD OF 'flyoverlaw08.HomeNear'. -/
def homeNearCard : Claim7 := { stood := { row := homeNearRow, standIns := [], harness := (true, "92193935397b5a87bb9711b5489e958414a598b7d765f2bc372f27e1ae7e9198"), looks := false }, kinds := [], alts := [], laidByText := true, laidKinds := [.data, .data, .data, .data, .data, .data, .pinned], laidTests := true, laidLooks := .later }
def HomeNearCardSaid : Prop := Claim7.holds Tryz.pinned (.plain (OpenSpec.ofChange homeNearSpec)) homeNearCard

/-- THE TIED CARD OF 'flyoverlaw08.HomeQuiet'. -/
def homeQuietCard : Claim7 := { stood := { row := homeQuietRow, standIns := [], harness := (true, "92193935397b5a87bb9711b5489e958414a598b7d765f2bc372f27e1ae7e9198"), looks := false }, kinds := [], alts := [], laidByText := true, laidKinds := [.data, .data, .data, .data, .data, .data, .pinned], laidTests := true, laidLooks := .later }
def HomeQuietCardSaid : Prop := Claim7.holds Tryz.pinned (.plain (OpenSpec.ofChange homeQuietSpec)) homeQuietCard

/-- THE SECOND FORM's CARD OF 'flyoverlaw08.HomeWindows'. -/
def homeWindowsUptoCard : Claim7 := { stood := { row := homeWindowsUptoRow, standIns := [], harness := (true, "92193935397b5a87bb9711b5489e958414a598b7d765f2bc372f27e1ae7e9198"), looks := false }, kinds := [], alts := [], laidByText := true, laidKinds := [.data, .data, .data, .data, .data, .data, .pinned], laidTests := true, laidLooks := .later }
def HomeWindowsUptoCardSaid : Prop := Claim7.holds Tryz.pinned (.plain (OpenSpec.upto homeWindowsSpec)) homeWindowsUptoCard

/-- THE SECOND FORM's CARD OF 'flyoverlaw08.HomeWorks'. -/
def homeWorksUptoCard : Claim7 := { stood := { row := homeWorksUptoRow, standIns := [], harness := (true, "92193935397b5a87bb9711b5489e958414a598b7d765f2bc372f27e1ae7e9198"), looks := false }, kinds := [], alts := [], laidByText := true, laidKinds := [.data, .data, .data, .data, .data, .data, .pinned], laidTests := true, laidLooks := .later }
def HomeWorksUptoCardSaid : Prop := Claim7.holds Tryz.pinned (.plain (OpenSpec.upto homeWorksSpec)) homeWorksUptoCard

/-- THE SECOND FORM's CARD OF 'flyoverlaw08.HomeZones'. -/
def homeZonesUptoCard : Claim7 := { stood := { row := homeZonesUptoRow, standIns := [], harness := (true, "92193935397b5a87bb9711b5489e958414a598b7d765f2bc372f27e1ae7e9198"), looks := false }, kinds := [], alts := [], laidByText := true, laidKinds := [.data, .data, .data, .data, .data, .data, .pinned], laidTests := true, laidLooks := .later }
def HomeZonesUptoCardSaid : Prop := Claim7.holds Tryz.pinned (.plain (OpenSpec.upto homeZonesSpec)) homeZonesUptoCard

/-- THE SECOND FORM's CARD OF 'flyoverlaw08.HomeOffers'. -/
def homeOffersUptoCard : Claim7 := { stood := { row := homeOffersUptoRow, standIns := [], harness := (true, "92193935397b5a87bb9711b5489e958414a598b7d765f2bc372f27e1ae7e9198"), looks := false }, kinds := [], alts := [], laidByText := true, laidKinds := [.data, .data, .data, .data, .data, .data, .pinned], laidTests := true, laidLooks := .later }
def HomeOffersUptoCardSaid : Prop := Claim7.holds Tryz.pinned (.plain (OpenSpec.upto homeOffersSpec)) homeOffersUptoCard

/-- THE SECOND FORM's CARD OF 'flyoverlaw08.HomeFunds'. -/
def homeFundsUptoCard : Claim7 := { stood := { row := homeFundsUptoRow, standIns := [], harness := (true, "92193935397b5a87bb9711b5489e958414a598b7d765f2bc372f27e1ae7e9198"), looks := false }, kinds := [], alts := [], laidByText := true, laidKinds := [.data, .data, .data, .data, .data, .data, .pinned], laidTests := true, laidLooks := .later }
def HomeFundsUptoCardSaid : Prop := Claim7.holds Tryz.pinned (.plain (OpenSpec.upto homeFundsSpec)) homeFundsUptoCard

/-- THE SECOND FORM's CARD OF 'flyoverlaw08.HomeComplaints'. -/
def homeComplaintsUptoCard : Claim7 := { stood := { row := homeComplaintsUptoRow, standIns := [], harness := (true, "92193935397b5a87bb9711b5489e958414a598b7d765f2bc372f27e1ae7e9198"), looks := false }, kinds := [], alts := [], laidByText := true, laidKinds := [.data, .data, .data, .data, .data, .data, .pinned], laidTests := true, laidLooks := .later }
def HomeComplaintsUptoCardSaid : Prop := Claim7.holds Tryz.pinned (.plain (OpenSpec.upto homeComplaintsSpec)) homeComplaintsUptoCard

/-- THE SECOND FORM's CARD OF 'flyoverlaw08.HomeStrings'. -/
def homeStringsUptoCard : Claim7 := { stood := { row := homeStringsUptoRow, standIns := [], harness := (true, "92193935397b5a87bb9711b5489e958414a598b7d765f2bc372f27e1ae7e9198"), looks := false }, kinds := [], alts := [], laidByText := true, laidKinds := [.data, .data, .data, .data, .data, .data, .pinned], laidTests := true, laidLooks := .later }
def HomeStringsUptoCardSaid : Prop := Claim7.holds Tryz.pinned (.plain (OpenSpec.upto homeStringsSpec)) homeStringsUptoCard

/-- THE SECOND FORM's CARD OF 'flyoverlaw08.HomeLeast'. -/
def homeLeastUptoCard : Claim7 := { stood := { row := homeLeastUptoRow, standIns := [], harness := (true, "92193935397b5a87bb9711b5489e958414a598b7d765f2bc372f27e1ae7e9198"), looks := false }, kinds := [], alts := [], laidByText := true, laidKinds := [.data, .data, .data, .data, .data, .data, .pinned], laidTests := true, laidLooks := .later }
def HomeLeastUptoCardSaid : Prop := Claim7.holds Tryz.pinned (.plain (OpenSpec.upto homeLeastSpec)) homeLeastUptoCard

/-- THE SECOND FORM's CARD OF 'flyoverlaw08.HomeOnce'. -/
def homeOnceUptoCard : Claim7 := { stood := { row := homeOnceUptoRow, standIns := [], harness := (true, "92193935397b5a87bb9711b5489e958414a598b7d765f2bc372f27e1ae7e9198"), looks := false }, kinds := [], alts := [], laidByText := true, laidKinds := [.data, .data, .data, .data, .data, .data, .pinned], laidTests := true, laidLooks := .later }
def HomeOnceUptoCardSaid : Prop := Claim7.holds Tryz.pinned (.plain (OpenSpec.upto homeOnceSpec)) homeOnceUptoCard

/-- THE SECOND FORM's CARD OF 'flyoverlaw08.HomeNear'. -/
def homeNearUptoCard : Claim7 := { stood := { row := homeNearUptoRow, standIns := [], harness := (true, "92193935397b5a87bb9711b5489e958414a598b7d765f2bc372f27e1ae7e9198"), looks := false }, kinds := [], alts := [], laidByText := true, laidKinds := [.data, .data, .data, .data, .data, .data, .pinned], laidTests := true, laidLooks := .later }
def HomeNearUptoCardSaid : Prop := Claim7.holds Tryz.pinned (.plain (OpenSpec.upto homeNearSpec)) homeNearUptoCard

/-- THE SECOND FORM's CARD OF 'flyoverlaw08.HomeQuiet'. -/
def homeQuietUptoCard : Claim7 := { stood := { row := homeQuietUptoRow, standIns := [], harness := (true, "92193935397b5a87bb9711b5489e958414a598b7d765f2bc372f27e1ae7e9198"), looks := false }, kinds := [], alts := [], laidByText := true, laidKinds := [.data, .data, .data, .data, .data, .data, .pinned], laidTests := true, laidLooks := .later }
def HomeQuietUptoCardSaid : Prop := Claim7.holds Tryz.pinned (.plain (OpenSpec.upto homeQuietSpec)) homeQuietUptoCard
end Rows
end Go.Proofs.YtfoeefaamjknpaaGreatDoor
