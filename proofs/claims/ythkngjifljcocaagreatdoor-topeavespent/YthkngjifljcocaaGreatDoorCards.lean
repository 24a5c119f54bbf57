/-
  DERIVED. GIVEN WITH THE SEED: THE CARDS: each row of YthkngjifljcocaaGreatDoorRows.lean that lists a variable, with what it lists TIED to the program's text (the seventh form; the later family's looks); each row that meets fmt, with fmt's text TOLD by the authors' own Lean function (tested against real Go, not proved from fmt's source: count such statements apart). THE CARD IS WHAT COUNTS. Prove the row's statement (the work); the ties are given (YthkngjifljcocaaGreatDoorTie.lean); close each card by the builder's one call (the guide's Derived/Test/ToyasCard.lean, 'card_holds'). Laid BY PROGRAM, IN A SANDBOX (cutbox-door.mjs). By AI agents, Wed Nov 11 2026. No macro, syntax, notation, axiom, sorry.
-/
import Derived.Test.YthkngjifljcocaaGreatDoorRows
import GoSem.ClaimSeven
namespace Go.Proofs.YthkngjifljcocaaGreatDoor
namespace Rows

/-- THE TIED CARD OF 'flyovertop.TopEaveSpent'. -/
def topEaveSpentCard : Claim7 := { stood := { row := topEaveSpentRow, standIns := [], harness := (true, "8fc8042f572be237fe487116c0909be47b513cb8a8a48490594339a076fd05c2"), looks := false }, kinds := [], alts := [], laidByText := true, laidKinds := [.data], laidTests := true, laidLooks := .later }
def TopEaveSpentCardSaid : Prop := Claim7.holds Tryz.pinned (.plain (OpenSpec.ofChange topEaveSpentSpec)) topEaveSpentCard

/-- THE SECOND FORM's CARD OF 'flyovertop.TopEaveSpent'. -/
def topEaveSpentUptoCard : Claim7 := { stood := { row := topEaveSpentUptoRow, standIns := [], harness := (true, "8fc8042f572be237fe487116c0909be47b513cb8a8a48490594339a076fd05c2"), looks := false }, kinds := [], alts := [], laidByText := true, laidKinds := [.data], laidTests := true, laidLooks := .later }
def TopEaveSpentUptoCardSaid : Prop := Claim7.holds Tryz.pinned (.plain (OpenSpec.upto topEaveSpentSpec)) topEaveSpentUptoCard
end Rows
end Go.Proofs.YthkngjifljcocaaGreatDoor
