/-
  DERIVED. GIVEN WITH THE SEED: THE CARDS: each row of YtoefnfbpoabinabGreatDoorRows.lean that lists a variable, with what it lists TIED to the program's text (the seventh form; the later family's looks); each row that meets fmt, with fmt's text TOLD by the authors' own Lean function (tested against real Go, not proved from fmt's source: count such statements apart). THE CARD IS WHAT COUNTS. Prove the row's statement (the work); the ties are given (YtoefnfbpoabinabGreatDoorTie.lean); close each card by the builder's one call (the guide's Derived/Test/ToyasCard.lean, 'card_holds'). Laid BY PROGRAM, IN A SANDBOX (cutbox-door.mjs). By AI agents, Wed Nov 11 2026. No macro, syntax, notation, axiom, sorry.
-/
import Derived.Test.YtoefnfbpoabinabGreatDoorRows
import GoSem.ClaimSeven
namespace Go.Proofs.YtoefnfbpoabinabGreatDoor
namespace Rows

/-- THE TIED CARD OF 'bookendlaw22.SettleKeeps'. -/
def settleKeepsCard : Claim7 := { stood := { row := settleKeepsRow, standIns := [], harness := (true, "39e2e82c1e829ea3c574fc6ad9bcf8416c17e54e017da8f22366397e251c12f3"), looks := true }, kinds := [], alts := [], laidByText := true, laidKinds := [.handle, .sentinel], laidTests := true, laidLooks := .later }
def SettleKeepsCardSaid : Prop := Claim7.holds Tryz.pinned (.plain (OpenSpec.ofChange settleKeepsSpec)) settleKeepsCard

/-- THE TIED CARD OF 'bookendlaw22.SettleTidy'. -/
def settleTidyCard : Claim7 := { stood := { row := settleTidyRow, standIns := [], harness := (true, "39e2e82c1e829ea3c574fc6ad9bcf8416c17e54e017da8f22366397e251c12f3"), looks := true }, kinds := [], alts := [], laidByText := true, laidKinds := [.handle, .sentinel], laidTests := true, laidLooks := .later }
def SettleTidyCardSaid : Prop := Claim7.holds Tryz.pinned (.plain (OpenSpec.ofChange settleTidySpec)) settleTidyCard

/-- THE SECOND FORM's CARD OF 'bookendlaw22.SettleKeeps'. -/
def settleKeepsUptoCard : Claim7 := { stood := { row := settleKeepsUptoRow, standIns := [], harness := (true, "39e2e82c1e829ea3c574fc6ad9bcf8416c17e54e017da8f22366397e251c12f3"), looks := true }, kinds := [], alts := [], laidByText := true, laidKinds := [.handle, .sentinel], laidTests := true, laidLooks := .later }
def SettleKeepsUptoCardSaid : Prop := Claim7.holds Tryz.pinned (.plain (OpenSpec.upto settleKeepsSpec)) settleKeepsUptoCard

/-- THE SECOND FORM's CARD OF 'bookendlaw22.SettleTidy'. -/
def settleTidyUptoCard : Claim7 := { stood := { row := settleTidyUptoRow, standIns := [], harness := (true, "39e2e82c1e829ea3c574fc6ad9bcf8416c17e54e017da8f22366397e251c12f3"), looks := true }, kinds := [], alts := [], laidByText := true, laidKinds := [.handle, .sentinel], laidTests := true, laidLooks := .later }
def SettleTidyUptoCardSaid : Prop := Claim7.holds Tryz.pinned (.plain (OpenSpec.upto settleTidySpec)) settleTidyUptoCard
end Rows
end Go.Proofs.YtoefnfbpoabinabGreatDoor
