/-
  DERIVED. GIVEN WITH THE SEED: THE CARDS: each row of YtimgfogakgakhaaGreatDoorRows.lean that lists a variable, with what it lists TIED to the program's text (the seventh form; the later family's looks); each row that meets fmt, with fmt's text TOLD by the authors' own Lean function (tested against real Go, not proved from fmt's source: count such statements apart). THE CARD IS WHAT COUNTS. Prove the row's statement (the work); the ties are given (YtimgfogakgakhaaGreatDoorTie.lean); close each card by the builder's one call (the guide's Derived/Test/ToyasCard.lean, 'card_holds'). Laid BY PROGRAM, IN A SANDBOX (cutbox-door.mjs). By AI agents, Wed Nov 11 2026. No macro, syntax, notation, axiom, sorry.
-/
import Derived.Test.YtimgfogakgakhaaGreatDoorRows
import GoSem.ClaimSeven
namespace Go.Proofs.YtimgfogakgakhaaGreatDoor
namespace Rows

/-- THE TIED CARD OF 'flyoverlaw07.NightSpans'. -/
def nightSpansCard : Claim7 := { stood := { row := nightSpansRow, standIns := [], harness := (true, "bb069dce59c33001b08389ea63fdfa334110ff259e859462387e1f501348918d"), looks := false }, kinds := [], alts := [], laidByText := true, laidKinds := [.data, .data, .data, .data], laidTests := true, laidLooks := .later }
def NightSpansCardSaid : Prop := Claim7.holds Tryz.pinned (.plain (OpenSpec.ofChange nightSpansSpec)) nightSpansCard

/-- THE TIED CARD OF 'flyoverlaw07.NightCounts'. -/
def nightCountsCard : Claim7 := { stood := { row := nightCountsRow, standIns := [], harness := (true, "bb069dce59c33001b08389ea63fdfa334110ff259e859462387e1f501348918d"), looks := false }, kinds := [], alts := [], laidByText := true, laidKinds := [.data, .data, .data, .data], laidTests := true, laidLooks := .later }
def NightCountsCardSaid : Prop := Claim7.holds Tryz.pinned (.plain (OpenSpec.ofChange nightCountsSpec)) nightCountsCard

/-- THE TIED CARD OF 'flyoverlaw07.NightRespite'. -/
def nightRespiteCard : Claim7 := { stood := { row := nightRespiteRow, standIns := [], harness := (true, "bb069dce59c33001b08389ea63fdfa334110ff259e859462387e1f501348918d"), looks := false }, kinds := [], alts := [], laidByText := true, laidKinds := [.data, .data, .data, .data], laidTests := true, laidLooks := .later }
def NightRespiteCardSaid : Prop := Claim7.holds Tryz.pinned (.plain (OpenSpec.ofChange nightRespiteSpec)) nightRespiteCard

/-- THE TIED CARD OF 'flyoverlaw07.NightCases'. -/
def nightCasesCard : Claim7 := { stood := { row := nightCasesRow, standIns := [], harness := (true, "bb069dce59c33001b08389ea63fdfa334110ff259e859462387e1f501348918d"), looks := false }, kinds := [], alts := [], laidByText := true, laidKinds := [.data, .data, .data, .data], laidTests := true, laidLooks := .later }
def NightCasesCardSaid : Prop := Claim7.holds Tryz.pinned (.plain (OpenSpec.ofChange nightCasesSpec)) nightCasesCard

/-- THE TIED CARD OF 'flyoverlaw07.NightValid'. -/
def nightValidCard : Claim7 := { stood := { row := nightValidRow, standIns := [], harness := (true, "bb069dce59c33001b08389ea63fdfa334110ff259e859462387e1f501348918d"), looks := false }, kinds := [], alts := [], laidByText := true, laidKinds := [.data, .data, .data, .data], laidTests := true, laidLooks := .later }
def NightValidCardSaid : Prop := Claim7.holds Tryz.pinned (.plain (OpenSpec.ofChange nightValidSpec)) nightValidCard

/-- THE TIED CARD OF 'flyoverlaw07.NightPlans'. -/
def nightPlansCard : Claim7 := { stood := { row := nightPlansRow, standIns := [], harness := (true, "bb069dce59c33001b08389ea63fdfa334110ff259e859462387e1f501348918d"), looks := false }, kinds := [], alts := [], laidByText := true, laidKinds := [.data, .data, .data, .data], laidTests := true, laidLooks := .later }
def NightPlansCardSaid : Prop := Claim7.holds Tryz.pinned (.plain (OpenSpec.ofChange nightPlansSpec)) nightPlansCard

/-- THE TIED CARD OF 'flyoverlaw07.NightBounds'. -/
def nightBoundsCard : Claim7 := { stood := { row := nightBoundsRow, standIns := [], harness := (true, "bb069dce59c33001b08389ea63fdfa334110ff259e859462387e1f501348918d"), looks := false }, kinds := [], alts := [], laidByText := true, laidKinds := [.data, .data, .data, .data], laidTests := true, laidLooks := .later }
def NightBoundsCardSaid : Prop := Claim7.holds Tryz.pinned (.plain (OpenSpec.ofChange nightBoundsSpec)) nightBoundsCard

/-- THE TIED CARD OF 'flyoverlaw07.NightEscapes'. -/
def nightEscapesCard : Claim7 := { stood := { row := nightEscapesRow, standIns := [], harness := (true, "bb069dce59c33001b08389ea63fdfa334110ff259e859462387e1f501348918d"), looks := false }, kinds := [], alts := [], laidByText := true, laidKinds := [.data, .data, .data, .data], laidTests := true, laidLooks := .later }
def NightEscapesCardSaid : Prop := Claim7.holds Tryz.pinned (.plain (OpenSpec.ofChange nightEscapesSpec)) nightEscapesCard

/-- THE TIED CARD OF 'flyoverlaw07.NightParts'. -/
def nightPartsCard : Claim7 := { stood := { row := nightPartsRow, standIns := [], harness := (true, "bb069dce59c33001b08389ea63fdfa334110ff259e859462387e1f501348918d"), looks := false }, kinds := [], alts := [], laidByText := true, laidKinds := [.data, .data, .data, .data], laidTests := true, laidLooks := .later }
def NightPartsCardSaid : Prop := Claim7.holds Tryz.pinned (.plain (OpenSpec.ofChange nightPartsSpec)) nightPartsCard

/-- THE TIED CARD OF 'flyoverlaw07.NightRests'. -/
def nightRestsCard : Claim7 := { stood := { row := nightRestsRow, standIns := [], harness := (true, "bb069dce59c33001b08389ea63fdfa334110ff259e859462387e1f501348918d"), looks := false }, kinds := [], alts := [], laidByText := true, laidKinds := [.data, .data, .data, .data], laidTests := true, laidLooks := .later }
def NightRestsCardSaid : Prop := Claim7.holds Tryz.pinned (.plain (OpenSpec.ofChange nightRestsSpec)) nightRestsCard

/-- THE TIED CARD OF 'flyoverlaw07.NightBest'. -/
def nightBestCard : Claim7 := { stood := { row := nightBestRow, standIns := [], harness := (true, "bb069dce59c33001b08389ea63fdfa334110ff259e859462387e1f501348918d"), looks := false }, kinds := [], alts := [], laidByText := true, laidKinds := [.data, .data, .data, .data], laidTests := true, laidLooks := .later }
def NightBestCardSaid : Prop := Claim7.holds Tryz.pinned (.plain (OpenSpec.ofChange nightBestSpec)) nightBestCard

/-- THE TIED CARD OF 'flyoverlaw07.NightStrings'. -/
def nightStringsCard : Claim7 := { stood := { row := nightStringsRow, standIns := [], harness := (true, "bb069dce59c33001b08389ea63fdfa334110ff259e859462387e1f501348918d"), looks := false }, kinds := [], alts := [], laidByText := true, laidKinds := [.data, .data, .data, .data, .data, .pinned], laidTests := true, laidLooks := .later }
def NightStringsCardSaid : Prop := Claim7.holds Tryz.pinned (.plain (OpenSpec.ofChange nightStringsSpec)) nightStringsCard

/-- THE TIED CARD OF 'flyoverlaw07.NightBack'. -/
def nightBackCard : Claim7 := { stood := { row := nightBackRow, standIns := [], harness := (true, "bb069dce59c33001b08389ea63fdfa334110ff259e859462387e1f501348918d"), looks := false }, kinds := [], alts := [], laidByText := true, laidKinds := [.data, .data, .data, .data, .data, .pinned], laidTests := true, laidLooks := .later }
def NightBackCardSaid : Prop := Claim7.holds Tryz.pinned (.plain (OpenSpec.ofChange nightBackSpec)) nightBackCard

/-- THE SECOND FORM's CARD OF 'flyoverlaw07.NightSpans'. -/
def nightSpansUptoCard : Claim7 := { stood := { row := nightSpansUptoRow, standIns := [], harness := (true, "bb069dce59c33001b08389ea63fdfa334110ff259e859462387e1f501348918d"), looks := false }, kinds := [], alts := [], laidByText := true, laidKinds := [.data, .data, .data, .data], laidTests := true, laidLooks := .later }
def NightSpansUptoCardSaid : Prop := Claim7.holds Tryz.pinned (.plain (OpenSpec.upto nightSpansSpec)) nightSpansUptoCard

/-- THE SECOND FORM's CARD OF 'flyoverlaw07.NightCounts'. -/
def nightCountsUptoCard : Claim7 := { stood := { row := nightCountsUptoRow, standIns := [], harness := (true, "bb069dce59c33001b08389ea63fdfa334110ff259e859462387e1f501348918d"), looks := false }, kinds := [], alts := [], laidByText := true, laidKinds := [.data, .data, .data, .data], laidTests := true, laidLooks := .later }
def NightCountsUptoCardSaid : Prop := Claim7.holds Tryz.pinned (.plain (OpenSpec.upto nightCountsSpec)) nightCountsUptoCard

/-- THE SECOND FORM's CARD OF 'flyoverlaw07.NightRespite'. -/
def nightRespiteUptoCard : Claim7 := { stood := { row := nightRespiteUptoRow, standIns := [], harness := (true, "bb069dce59c33001b08389ea63fdfa334110ff259e859462387e1f501348918d"), looks := false }, kinds := [], alts := [], laidByText := true, laidKinds := [.data, .data, .data, .data], laidTests := true, laidLooks := .later }
def NightRespiteUptoCardSaid : Prop := Claim7.holds Tryz.pinned (.plain (OpenSpec.upto nightRespiteSpec)) nightRespiteUptoCard

/-- THE SECOND FORM's CARD OF 'flyoverlaw07.NightCases'. -/
def nightCasesUptoCard : Claim7 := { stood := { row := nightCasesUptoRow, standIns := [], harness := (true, "bb069dce59c33001b08389ea63fdfa334110ff259e859462387e1f501348918d"), looks := false }, kinds := [], alts := [], laidByText := true, laidKinds := [.data, .data, .data, .data], laidTests := true, laidLooks := .later }
def NightCasesUptoCardSaid : Prop := Claim7.holds Tryz.pinned (.plain (OpenSpec.upto nightCasesSpec)) nightCasesUptoCard

/-- THE SECOND FORM's CARD OF 'flyoverlaw07.NightValid'. -/
def nightValidUptoCard : Claim7 := { stood := { row := nightValidUptoRow, standIns := [], harness := (true, "bb069dce59c33001b08389ea63fdfa334110ff259e859462387e1f501348918d"), looks := false }, kinds := [], alts := [], laidByText := true, laidKinds := [.data, .data, .data, .data], laidTests := true, laidLooks := .later }
def NightValidUptoCardSaid : Prop := Claim7.holds Tryz.pinned (.plain (OpenSpec.upto nightValidSpec)) nightValidUptoCard

/-- THE SECOND FORM's CARD OF 'flyoverlaw07.NightPlans'. -/
def nightPlansUptoCard : Claim7 := { stood := { row := nightPlansUptoRow, standIns := [], harness := (true, "bb069dce59c33001b08389ea63fdfa334110ff259e859462387e1f501348918d"), looks := false }, kinds := [], alts := [], laidByText := true, laidKinds := [.data, .data, .data, .data], laidTests := true, laidLooks := .later }
def NightPlansUptoCardSaid : Prop := Claim7.holds Tryz.pinned (.plain (OpenSpec.upto nightPlansSpec)) nightPlansUptoCard

/-- THE SECOND FORM's CARD OF 'flyoverlaw07.NightBounds'. -/
def nightBoundsUptoCard : Claim7 := { stood := { row := nightBoundsUptoRow, standIns := [], harness := (true, "bb069dce59c33001b08389ea63fdfa334110ff259e859462387e1f501348918d"), looks := false }, kinds := [], alts := [], laidByText := true, laidKinds := [.data, .data, .data, .data], laidTests := true, laidLooks := .later }
def NightBoundsUptoCardSaid : Prop := Claim7.holds Tryz.pinned (.plain (OpenSpec.upto nightBoundsSpec)) nightBoundsUptoCard

/-- THE SECOND FORM's CARD OF 'flyoverlaw07.NightEscapes'. -/
def nightEscapesUptoCard : Claim7 := { stood := { row := nightEscapesUptoRow, standIns := [], harness := (true, "bb069dce59c33001b08389ea63fdfa334110ff259e859462387e1f501348918d"), looks := false }, kinds := [], alts := [], laidByText := true, laidKinds := [.data, .data, .data, .data], laidTests := true, laidLooks := .later }
def NightEscapesUptoCardSaid : Prop := Claim7.holds Tryz.pinned (.plain (OpenSpec.upto nightEscapesSpec)) nightEscapesUptoCard

/-- THE SECOND FORM's CARD OF 'flyoverlaw07.NightParts'. -/
def nightPartsUptoCard : Claim7 := { stood := { row := nightPartsUptoRow, standIns := [], harness := (true, "bb069dce59c33001b08389ea63fdfa334110ff259e859462387e1f501348918d"), looks := false }, kinds := [], alts := [], laidByText := true, laidKinds := [.data, .data, .data, .data], laidTests := true, laidLooks := .later }
def NightPartsUptoCardSaid : Prop := Claim7.holds Tryz.pinned (.plain (OpenSpec.upto nightPartsSpec)) nightPartsUptoCard

/-- THE SECOND FORM's CARD OF 'flyoverlaw07.NightRests'. -/
def nightRestsUptoCard : Claim7 := { stood := { row := nightRestsUptoRow, standIns := [], harness := (true, "bb069dce59c33001b08389ea63fdfa334110ff259e859462387e1f501348918d"), looks := false }, kinds := [], alts := [], laidByText := true, laidKinds := [.data, .data, .data, .data], laidTests := true, laidLooks := .later }
def NightRestsUptoCardSaid : Prop := Claim7.holds Tryz.pinned (.plain (OpenSpec.upto nightRestsSpec)) nightRestsUptoCard

/-- THE SECOND FORM's CARD OF 'flyoverlaw07.NightBest'. -/
def nightBestUptoCard : Claim7 := { stood := { row := nightBestUptoRow, standIns := [], harness := (true, "bb069dce59c33001b08389ea63fdfa334110ff259e859462387e1f501348918d"), looks := false }, kinds := [], alts := [], laidByText := true, laidKinds := [.data, .data, .data, .data], laidTests := true, laidLooks := .later }
def NightBestUptoCardSaid : Prop := Claim7.holds Tryz.pinned (.plain (OpenSpec.upto nightBestSpec)) nightBestUptoCard

/-- THE SECOND FORM's CARD OF 'flyoverlaw07.NightStrings'. -/
def nightStringsUptoCard : Claim7 := { stood := { row := nightStringsUptoRow, standIns := [], harness := (true, "bb069dce59c33001b08389ea63fdfa334110ff259e859462387e1f501348918d"), looks := false }, kinds := [], alts := [], laidByText := true, laidKinds := [.data, .data, .data, .data, .data, .pinned], laidTests := true, laidLooks := .later }
def NightStringsUptoCardSaid : Prop := Claim7.holds Tryz.pinned (.plain (OpenSpec.upto nightStringsSpec)) nightStringsUptoCard

/-- THE SECOND FORM's CARD OF 'flyoverlaw07.NightBack'. -/
def nightBackUptoCard : Claim7 := { stood := { row := nightBackUptoRow, standIns := [], harness := (true, "bb069dce59c33001b08389ea63fdfa334110ff259e859462387e1f501348918d"), looks := false }, kinds := [], alts := [], laidByText := true, laidKinds := [.data, .data, .data, .data, .data, .pinned], laidTests := true, laidLooks := .later }
def NightBackUptoCardSaid : Prop := Claim7.holds Tryz.pinned (.plain (OpenSpec.upto nightBackSpec)) nightBackUptoCard
end Rows
end Go.Proofs.YtimgfogakgakhaaGreatDoor
