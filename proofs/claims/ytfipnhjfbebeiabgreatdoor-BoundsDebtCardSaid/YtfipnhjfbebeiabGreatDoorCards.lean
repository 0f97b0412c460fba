/-
  DERIVED. GIVEN WITH THE SEED: THE CARDS: each row of YtfipnhjfbebeiabGreatDoorRows.lean that lists a variable, with what it lists TIED to the program's text (the seventh form; the later family's looks); each row that meets fmt, with fmt's text TOLD by the authors' own Lean function (tested against real Go, not proved from fmt's source: count such statements apart). THE CARD IS WHAT COUNTS. Prove the row's statement (the work); the ties are given (YtfipnhjfbebeiabGreatDoorTie.lean); close each card by the builder's one call (the guide's Derived/Test/ToyasCard.lean, 'card_holds'). Laid BY PROGRAM, IN A SANDBOX (cutbox-door.mjs). By AI agents, Wed Nov 11 2026. No macro, syntax, notation, axiom, sorry.
-/
import Derived.Test.YtfipnhjfbebeiabGreatDoorRows
import GoSem.ClaimSeven
namespace Go.Proofs.YtfipnhjfbebeiabGreatDoor
namespace Rows

/-- THE TIED CARD OF 'bookendlaw18.DebtFalls'. -/
def debtFallsCard : Claim7 := { stood := { row := debtFallsRow, standIns := [], harness := (true, "410e4ad9fc22c68d59a4cd81e9c7f79f704c04dd04fac0f02c1028221344bf67"), looks := true }, kinds := [], alts := [], laidByText := true, laidKinds := [.handle, .sentinel], laidTests := true, laidLooks := .later }
def DebtFallsCardSaid : Prop := Claim7.holds Tryz.pinned (.plain (OpenSpec.ofChange debtFallsSpec)) debtFallsCard

/-- THE TIED CARD OF 'bookendlaw34.BoundsDebt'. -/
def boundsDebtCard : Claim7 := { stood := { row := boundsDebtRow, standIns := [], harness := (true, "410e4ad9fc22c68d59a4cd81e9c7f79f704c04dd04fac0f02c1028221344bf67"), looks := true }, kinds := [], alts := [], laidByText := true, laidKinds := [.handle, .sentinel], laidTests := true, laidLooks := .later }
def BoundsDebtCardSaid : Prop := Claim7.holds Tryz.pinned (.plain (OpenSpec.ofChange boundsDebtSpec)) boundsDebtCard

/-- THE SECOND FORM's CARD OF 'bookendlaw18.DebtFalls'. -/
def debtFallsUptoCard : Claim7 := { stood := { row := debtFallsUptoRow, standIns := [], harness := (true, "410e4ad9fc22c68d59a4cd81e9c7f79f704c04dd04fac0f02c1028221344bf67"), looks := true }, kinds := [], alts := [], laidByText := true, laidKinds := [.handle, .sentinel], laidTests := true, laidLooks := .later }
def DebtFallsUptoCardSaid : Prop := Claim7.holds Tryz.pinned (.plain (OpenSpec.upto debtFallsSpec)) debtFallsUptoCard

/-- THE SECOND FORM's CARD OF 'bookendlaw34.BoundsDebt'. -/
def boundsDebtUptoCard : Claim7 := { stood := { row := boundsDebtUptoRow, standIns := [], harness := (true, "410e4ad9fc22c68d59a4cd81e9c7f79f704c04dd04fac0f02c1028221344bf67"), looks := true }, kinds := [], alts := [], laidByText := true, laidKinds := [.handle, .sentinel], laidTests := true, laidLooks := .later }
def BoundsDebtUptoCardSaid : Prop := Claim7.holds Tryz.pinned (.plain (OpenSpec.upto boundsDebtSpec)) boundsDebtUptoCard
end Rows
end Go.Proofs.YtfipnhjfbebeiabGreatDoor
