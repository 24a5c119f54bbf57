/-
  DERIVED. GIVEN WITH THE SEED: THE CARDS: each row of YtnbhfmaamloodaaDoorRows.lean that lists a variable, with what it lists TIED to the program's text (the seventh form; the later family's looks); each row that meets fmt, with fmt's text TOLD by the authors' own Lean function (tested against real Go, not proved from fmt's source: count such statements apart). THE CARD IS WHAT COUNTS. Prove the row's statement (the work); the ties are given (YtnbhfmaamloodaaDoorTie.lean); close each card by the builder's one call (the guide's Derived/Test/ToyasCard.lean, 'card_holds'). Laid BY PROGRAM, IN A SANDBOX (cutbox-door.mjs). By AI agents, Wed Nov 11 2026. No macro, syntax, notation, axiom, sorry.
-/
import Derived.Test.YtnbhfmaamloodaaDoorRows
import GoSem.ClaimSeven
namespace Go.Proofs.YtnbhfmaamloodaaDoor
namespace Rows

/-- THE TIED CARD OF 'flyovertop.TopBellCut'. -/
def topBellCutCard : Claim7 := { stood := { row := topBellCutRow, standIns := [], harness := (true, "d38143f44c62685a04b3c0958c0a5508b45eb3d0781259435e1290e2e1ace665"), looks := false }, kinds := [], alts := [], laidByText := true, laidKinds := [.data], laidTests := true, laidLooks := .later }
def TopBellCutCardSaid : Prop := Claim7.holds Tryd.pinned (.plain (OpenSpec.ofChange topBellCutSpec)) topBellCutCard

/-- THE SECOND FORM's CARD OF 'flyovertop.TopBellCut'. -/
def topBellCutUptoCard : Claim7 := { stood := { row := topBellCutUptoRow, standIns := [], harness := (true, "d38143f44c62685a04b3c0958c0a5508b45eb3d0781259435e1290e2e1ace665"), looks := false }, kinds := [], alts := [], laidByText := true, laidKinds := [.data], laidTests := true, laidLooks := .later }
def TopBellCutUptoCardSaid : Prop := Claim7.holds Tryd.pinned (.plain (OpenSpec.upto topBellCutSpec)) topBellCutUptoCard
end Rows
end Go.Proofs.YtnbhfmaamloodaaDoor
