/-
  DERIVED. GIVEN WITH THE SEED: THE CARDS: each row of YtbahicnpiefmlaaGreatDoorRows.lean that lists a variable, with what it lists TIED to the program's text (the seventh form; the later family's looks); each row that meets fmt, with fmt's text TOLD by the authors' own Lean function (tested against real Go, not proved from fmt's source: count such statements apart). THE CARD IS WHAT COUNTS. Prove the row's statement (the work); the ties are given (YtbahicnpiefmlaaGreatDoorTie.lean); close each card by the builder's one call (the guide's Derived/Test/ToyasCard.lean, 'card_holds'). Laid BY PROGRAM, IN A SANDBOX (cutbox-door.mjs). By AI agents, Wed Nov 11 2026. No macro, syntax, notation, axiom, sorry.
-/
import Derived.Test.YtbahicnpiefmlaaGreatDoorRows
import GoSem.ClaimSeven
namespace Go.Proofs.YtbahicnpiefmlaaGreatDoor
namespace Rows

/-- THE TIED CARD OF 'bookendlaw18.DebtCounts'. -/
def debtCountsCard : Claim7 := { stood := { row := debtCountsRow, standIns := [], harness := (true, "e9a9b5d9956289756b337ed1b5906f641ca05ad709a93707919d6ff303530d50"), looks := true }, kinds := [], alts := [], laidByText := true, laidKinds := [.handle, .sentinel], laidTests := true, laidLooks := .later }
def DebtCountsCardSaid : Prop := Claim7.holds Tryz.pinned (.plain (OpenSpec.ofChange debtCountsSpec)) debtCountsCard

/-- THE TIED CARD OF 'bookendlaw18.DebtRuns'. -/
def debtRunsCard : Claim7 := { stood := { row := debtRunsRow, standIns := [], harness := (true, "e9a9b5d9956289756b337ed1b5906f641ca05ad709a93707919d6ff303530d50"), looks := true }, kinds := [], alts := [], laidByText := true, laidKinds := [.handle, .sentinel], laidTests := true, laidLooks := .later }
def DebtRunsCardSaid : Prop := Claim7.holds Tryz.pinned (.plain (OpenSpec.ofChange debtRunsSpec)) debtRunsCard

/-- THE TIED CARD OF 'bookendlaw18.DebtSettles'. -/
def debtSettlesCard : Claim7 := { stood := { row := debtSettlesRow, standIns := [], harness := (true, "e9a9b5d9956289756b337ed1b5906f641ca05ad709a93707919d6ff303530d50"), looks := true }, kinds := [], alts := [], laidByText := true, laidKinds := [.handle, .sentinel], laidTests := true, laidLooks := .later }
def DebtSettlesCardSaid : Prop := Claim7.holds Tryz.pinned (.plain (OpenSpec.ofChange debtSettlesSpec)) debtSettlesCard

/-- THE TIED CARD OF 'bookendlaw18.DebtFalls'. -/
def debtFallsCard : Claim7 := { stood := { row := debtFallsRow, standIns := [], harness := (true, "e9a9b5d9956289756b337ed1b5906f641ca05ad709a93707919d6ff303530d50"), looks := true }, kinds := [], alts := [], laidByText := true, laidKinds := [.handle, .sentinel], laidTests := true, laidLooks := .later }
def DebtFallsCardSaid : Prop := Claim7.holds Tryz.pinned (.plain (OpenSpec.ofChange debtFallsSpec)) debtFallsCard

/-- THE TIED CARD OF 'bookendlaw34.BoundsDebt'. -/
def boundsDebtCard : Claim7 := { stood := { row := boundsDebtRow, standIns := [], harness := (true, "e9a9b5d9956289756b337ed1b5906f641ca05ad709a93707919d6ff303530d50"), looks := true }, kinds := [], alts := [], laidByText := true, laidKinds := [.handle, .sentinel], laidTests := true, laidLooks := .later }
def BoundsDebtCardSaid : Prop := Claim7.holds Tryz.pinned (.plain (OpenSpec.ofChange boundsDebtSpec)) boundsDebtCard

/-- THE TIED CARD OF 'bookendlaw22.SettleDrains'. -/
def settleDrainsCard : Claim7 := { stood := { row := settleDrainsRow, standIns := [], harness := (true, "e9a9b5d9956289756b337ed1b5906f641ca05ad709a93707919d6ff303530d50"), looks := true }, kinds := [], alts := [], laidByText := true, laidKinds := [.handle, .sentinel], laidTests := true, laidLooks := .later }
def SettleDrainsCardSaid : Prop := Claim7.holds Tryz.pinned (.plain (OpenSpec.ofChange settleDrainsSpec)) settleDrainsCard

/-- THE TIED CARD OF 'bookendlaw22.SettleKeeps'. -/
def settleKeepsCard : Claim7 := { stood := { row := settleKeepsRow, standIns := [], harness := (true, "e9a9b5d9956289756b337ed1b5906f641ca05ad709a93707919d6ff303530d50"), looks := true }, kinds := [], alts := [], laidByText := true, laidKinds := [.handle, .sentinel], laidTests := true, laidLooks := .later }
def SettleKeepsCardSaid : Prop := Claim7.holds Tryz.pinned (.plain (OpenSpec.ofChange settleKeepsSpec)) settleKeepsCard

/-- THE TIED CARD OF 'bookendlaw22.SettleRests'. -/
def settleRestsCard : Claim7 := { stood := { row := settleRestsRow, standIns := [], harness := (true, "e9a9b5d9956289756b337ed1b5906f641ca05ad709a93707919d6ff303530d50"), looks := true }, kinds := [], alts := [], laidByText := true, laidKinds := [.handle, .sentinel], laidTests := true, laidLooks := .later }
def SettleRestsCardSaid : Prop := Claim7.holds Tryz.pinned (.plain (OpenSpec.ofChange settleRestsSpec)) settleRestsCard

/-- THE TIED CARD OF 'bookendlaw22.SettleCompacts'. -/
def settleCompactsCard : Claim7 := { stood := { row := settleCompactsRow, standIns := [], harness := (true, "e9a9b5d9956289756b337ed1b5906f641ca05ad709a93707919d6ff303530d50"), looks := true }, kinds := [], alts := [], laidByText := true, laidKinds := [.handle, .sentinel], laidTests := true, laidLooks := .later }
def SettleCompactsCardSaid : Prop := Claim7.holds Tryz.pinned (.plain (OpenSpec.ofChange settleCompactsSpec)) settleCompactsCard

/-- THE TIED CARD OF 'bookendlaw22.SettleCosts'. -/
def settleCostsCard : Claim7 := { stood := { row := settleCostsRow, standIns := [], harness := (true, "e9a9b5d9956289756b337ed1b5906f641ca05ad709a93707919d6ff303530d50"), looks := true }, kinds := [], alts := [], laidByText := true, laidKinds := [.handle, .sentinel], laidTests := true, laidLooks := .later }
def SettleCostsCardSaid : Prop := Claim7.holds Tryz.pinned (.plain (OpenSpec.ofChange settleCostsSpec)) settleCostsCard

/-- THE TIED CARD OF 'bookendlaw22.SettleWholes'. -/
def settleWholesCard : Claim7 := { stood := { row := settleWholesRow, standIns := [], harness := (true, "e9a9b5d9956289756b337ed1b5906f641ca05ad709a93707919d6ff303530d50"), looks := true }, kinds := [], alts := [], laidByText := true, laidKinds := [.handle, .sentinel], laidTests := true, laidLooks := .later }
def SettleWholesCardSaid : Prop := Claim7.holds Tryz.pinned (.plain (OpenSpec.ofChange settleWholesSpec)) settleWholesCard

/-- THE TIED CARD OF 'bookendlaw22.SettleTidy'. -/
def settleTidyCard : Claim7 := { stood := { row := settleTidyRow, standIns := [], harness := (true, "e9a9b5d9956289756b337ed1b5906f641ca05ad709a93707919d6ff303530d50"), looks := true }, kinds := [], alts := [], laidByText := true, laidKinds := [.handle, .sentinel], laidTests := true, laidLooks := .later }
def SettleTidyCardSaid : Prop := Claim7.holds Tryz.pinned (.plain (OpenSpec.ofChange settleTidySpec)) settleTidyCard

/-- THE SECOND FORM's CARD OF 'bookendlaw18.DebtCounts'. -/
def debtCountsUptoCard : Claim7 := { stood := { row := debtCountsUptoRow, standIns := [], harness := (true, "e9a9b5d9956289756b337ed1b5906f641ca05ad709a93707919d6ff303530d50"), looks := true }, kinds := [], alts := [], laidByText := true, laidKinds := [.handle, .sentinel], laidTests := true, laidLooks := .later }
def DebtCountsUptoCardSaid : Prop := Claim7.holds Tryz.pinned (.plain (OpenSpec.upto debtCountsSpec)) debtCountsUptoCard

/-- THE SECOND FORM's CARD OF 'bookendlaw18.DebtRuns'. -/
def debtRunsUptoCard : Claim7 := { stood := { row := debtRunsUptoRow, standIns := [], harness := (true, "e9a9b5d9956289756b337ed1b5906f641ca05ad709a93707919d6ff303530d50"), looks := true }, kinds := [], alts := [], laidByText := true, laidKinds := [.handle, .sentinel], laidTests := true, laidLooks := .later }
def DebtRunsUptoCardSaid : Prop := Claim7.holds Tryz.pinned (.plain (OpenSpec.upto debtRunsSpec)) debtRunsUptoCard

/-- THE SECOND FORM's CARD OF 'bookendlaw18.DebtSettles'. -/
def debtSettlesUptoCard : Claim7 := { stood := { row := debtSettlesUptoRow, standIns := [], harness := (true, "e9a9b5d9956289756b337ed1b5906f641ca05ad709a93707919d6ff303530d50"), looks := true }, kinds := [], alts := [], laidByText := true, laidKinds := [.handle, .sentinel], laidTests := true, laidLooks := .later }
def DebtSettlesUptoCardSaid : Prop := Claim7.holds Tryz.pinned (.plain (OpenSpec.upto debtSettlesSpec)) debtSettlesUptoCard

/-- THE SECOND FORM's CARD OF 'bookendlaw18.DebtFalls'. -/
def debtFallsUptoCard : Claim7 := { stood := { row := debtFallsUptoRow, standIns := [], harness := (true, "e9a9b5d9956289756b337ed1b5906f641ca05ad709a93707919d6ff303530d50"), looks := true }, kinds := [], alts := [], laidByText := true, laidKinds := [.handle, .sentinel], laidTests := true, laidLooks := .later }
def DebtFallsUptoCardSaid : Prop := Claim7.holds Tryz.pinned (.plain (OpenSpec.upto debtFallsSpec)) debtFallsUptoCard

/-- THE SECOND FORM's CARD OF 'bookendlaw34.BoundsDebt'. -/
def boundsDebtUptoCard : Claim7 := { stood := { row := boundsDebtUptoRow, standIns := [], harness := (true, "e9a9b5d9956289756b337ed1b5906f641ca05ad709a93707919d6ff303530d50"), looks := true }, kinds := [], alts := [], laidByText := true, laidKinds := [.handle, .sentinel], laidTests := true, laidLooks := .later }
def BoundsDebtUptoCardSaid : Prop := Claim7.holds Tryz.pinned (.plain (OpenSpec.upto boundsDebtSpec)) boundsDebtUptoCard

/-- THE SECOND FORM's CARD OF 'bookendlaw22.SettleDrains'. -/
def settleDrainsUptoCard : Claim7 := { stood := { row := settleDrainsUptoRow, standIns := [], harness := (true, "e9a9b5d9956289756b337ed1b5906f641ca05ad709a93707919d6ff303530d50"), looks := true }, kinds := [], alts := [], laidByText := true, laidKinds := [.handle, .sentinel], laidTests := true, laidLooks := .later }
def SettleDrainsUptoCardSaid : Prop := Claim7.holds Tryz.pinned (.plain (OpenSpec.upto settleDrainsSpec)) settleDrainsUptoCard

/-- THE SECOND FORM's CARD OF 'bookendlaw22.SettleKeeps'. -/
def settleKeepsUptoCard : Claim7 := { stood := { row := settleKeepsUptoRow, standIns := [], harness := (true, "e9a9b5d9956289756b337ed1b5906f641ca05ad709a93707919d6ff303530d50"), looks := true }, kinds := [], alts := [], laidByText := true, laidKinds := [.handle, .sentinel], laidTests := true, laidLooks := .later }
def SettleKeepsUptoCardSaid : Prop := Claim7.holds Tryz.pinned (.plain (OpenSpec.upto settleKeepsSpec)) settleKeepsUptoCard

/-- THE SECOND FORM's CARD OF 'bookendlaw22.SettleRests'. -/
def settleRestsUptoCard : Claim7 := { stood := { row := settleRestsUptoRow, standIns := [], harness := (true, "e9a9b5d9956289756b337ed1b5906f641ca05ad709a93707919d6ff303530d50"), looks := true }, kinds := [], alts := [], laidByText := true, laidKinds := [.handle, .sentinel], laidTests := true, laidLooks := .later }
def SettleRestsUptoCardSaid : Prop := Claim7.holds Tryz.pinned (.plain (OpenSpec.upto settleRestsSpec)) settleRestsUptoCard

/-- THE SECOND FORM's CARD OF 'bookendlaw22.SettleCompacts'. -/
def settleCompactsUptoCard : Claim7 := { stood := { row := settleCompactsUptoRow, standIns := [], harness := (true, "e9a9b5d9956289756b337ed1b5906f641ca05ad709a93707919d6ff303530d50"), looks := true }, kinds := [], alts := [], laidByText := true, laidKinds := [.handle, .sentinel], laidTests := true, laidLooks := .later }
def SettleCompactsUptoCardSaid : Prop := Claim7.holds Tryz.pinned (.plain (OpenSpec.upto settleCompactsSpec)) settleCompactsUptoCard

/-- THE SECOND FORM's CARD OF 'bookendlaw22.SettleCosts'. -/
def settleCostsUptoCard : Claim7 := { stood := { row := settleCostsUptoRow, standIns := [], harness := (true, "e9a9b5d9956289756b337ed1b5906f641ca05ad709a93707919d6ff303530d50"), looks := true }, kinds := [], alts := [], laidByText := true, laidKinds := [.handle, .sentinel], laidTests := true, laidLooks := .later }
def SettleCostsUptoCardSaid : Prop := Claim7.holds Tryz.pinned (.plain (OpenSpec.upto settleCostsSpec)) settleCostsUptoCard

/-- THE SECOND FORM's CARD OF 'bookendlaw22.SettleWholes'. -/
def settleWholesUptoCard : Claim7 := { stood := { row := settleWholesUptoRow, standIns := [], harness := (true, "e9a9b5d9956289756b337ed1b5906f641ca05ad709a93707919d6ff303530d50"), looks := true }, kinds := [], alts := [], laidByText := true, laidKinds := [.handle, .sentinel], laidTests := true, laidLooks := .later }
def SettleWholesUptoCardSaid : Prop := Claim7.holds Tryz.pinned (.plain (OpenSpec.upto settleWholesSpec)) settleWholesUptoCard

/-- THE SECOND FORM's CARD OF 'bookendlaw22.SettleTidy'. -/
def settleTidyUptoCard : Claim7 := { stood := { row := settleTidyUptoRow, standIns := [], harness := (true, "e9a9b5d9956289756b337ed1b5906f641ca05ad709a93707919d6ff303530d50"), looks := true }, kinds := [], alts := [], laidByText := true, laidKinds := [.handle, .sentinel], laidTests := true, laidLooks := .later }
def SettleTidyUptoCardSaid : Prop := Claim7.holds Tryz.pinned (.plain (OpenSpec.upto settleTidySpec)) settleTidyUptoCard
end Rows
end Go.Proofs.YtbahicnpiefmlaaGreatDoor
