/-
  DERIVED. GIVEN WITH THE SEED: THE CARDS: each row of YtfceigpbgndbgaaGreatDoorRows.lean that lists a variable, with what it lists TIED to the program's text (the seventh form; the later family's looks); each row that meets fmt, with fmt's text TOLD by the authors' own Lean function (tested against real Go, not proved from fmt's source: count such statements apart). THE CARD IS WHAT COUNTS. Prove the row's statement (the work); the ties are given (YtfceigpbgndbgaaGreatDoorTie.lean); close each card by the builder's one call (the guide's Derived/Test/ToyasCard.lean, 'card_holds'). Laid BY PROGRAM, IN A SANDBOX (cutbox-door.mjs). By AI agents, Wed Nov 11 2026. No macro, syntax, notation, axiom, sorry.
-/
import Derived.Test.YtfceigpbgndbgaaGreatDoorRows
import GoSem.ClaimSeven
namespace Go.Proofs.YtfceigpbgndbgaaGreatDoor
namespace Rows

/-- THE TIED CARD OF 'bookendlaw22.SettleDrains'. -/
def settleDrainsCard : Claim7 := { stood := { row := settleDrainsRow, standIns := [], harness := (true, "c1a4ba02299a8c7ef2fd638b057d5bf96bd038b1a375cafbad6e8dc1135e7e7f"), looks := true }, kinds := [], alts := [], laidByText := true, laidKinds := [.handle, .sentinel], laidTests := true, laidLooks := .later }
def SettleDrainsCardSaid : Prop := Claim7.holds Tryz.pinned (.plain (OpenSpec.ofChange settleDrainsSpec)) settleDrainsCard

/-- THE TIED CARD OF 'bookendlaw22.SettleRests'. -/
def settleRestsCard : Claim7 := { stood := { row := settleRestsRow, standIns := [], harness := (true, "c1a4ba02299a8c7ef2fd638b057d5bf96bd038b1a375cafbad6e8dc1135e7e7f"), looks := true }, kinds := [], alts := [], laidByText := true, laidKinds := [.handle, .sentinel], laidTests := true, laidLooks := .later }
def SettleRestsCardSaid : Prop := Claim7.holds Tryz.pinned (.plain (OpenSpec.ofChange settleRestsSpec)) settleRestsCard

/-- THE SECOND FORM's CARD OF 'bookendlaw22.SettleDrains'. -/
def settleDrainsUptoCard : Claim7 := { stood := { row := settleDrainsUptoRow, standIns := [], harness := (true, "c1a4ba02299a8c7ef2fd638b057d5bf96bd038b1a375cafbad6e8dc1135e7e7f"), looks := true }, kinds := [], alts := [], laidByText := true, laidKinds := [.handle, .sentinel], laidTests := true, laidLooks := .later }
def SettleDrainsUptoCardSaid : Prop := Claim7.holds Tryz.pinned (.plain (OpenSpec.upto settleDrainsSpec)) settleDrainsUptoCard

/-- THE SECOND FORM's CARD OF 'bookendlaw22.SettleRests'. -/
def settleRestsUptoCard : Claim7 := { stood := { row := settleRestsUptoRow, standIns := [], harness := (true, "c1a4ba02299a8c7ef2fd638b057d5bf96bd038b1a375cafbad6e8dc1135e7e7f"), looks := true }, kinds := [], alts := [], laidByText := true, laidKinds := [.handle, .sentinel], laidTests := true, laidLooks := .later }
def SettleRestsUptoCardSaid : Prop := Claim7.holds Tryz.pinned (.plain (OpenSpec.upto settleRestsSpec)) settleRestsUptoCard
end Rows
end Go.Proofs.YtfceigpbgndbgaaGreatDoor
