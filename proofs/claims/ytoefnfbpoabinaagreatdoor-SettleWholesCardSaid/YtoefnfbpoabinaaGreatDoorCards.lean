/-
  DERIVED. GIVEN WITH THE SEED: THE CARDS: each row of YtoefnfbpoabinaaGreatDoorRows.lean that lists a variable, with what it lists TIED to the program's text (the seventh form; the later family's looks); each row that meets fmt, with fmt's text TOLD by the authors' own Lean function (tested against real Go, not proved from fmt's source: count such statements apart). THE CARD IS WHAT COUNTS. Prove the row's statement (the work); the ties are given (YtoefnfbpoabinaaGreatDoorTie.lean); close each card by the builder's one call (the guide's Derived/Test/ToyasCard.lean, 'card_holds'). Laid BY PROGRAM, IN A SANDBOX (cutbox-door.mjs). By AI agents, Wed Nov 11 2026. No macro, syntax, notation, axiom, sorry.
-/
import Derived.Test.YtoefnfbpoabinaaGreatDoorRows
import GoSem.ClaimSeven
namespace Go.Proofs.YtoefnfbpoabinaaGreatDoor
namespace Rows

/-- THE TIED CARD OF 'bookendlaw22.SettleWholes'. -/
def settleWholesCard : Claim7 := { stood := { row := settleWholesRow, standIns := [], harness := (true, "fa695c7738113873bbefe053482f2e0fd8dc2368312aa9ad4feb857289f4ce80"), looks := true }, kinds := [], alts := [], laidByText := true, laidKinds := [.handle, .sentinel], laidTests := true, laidLooks := .later }
def SettleWholesCardSaid : Prop := Claim7.holds Tryz.pinned (.plain (OpenSpec.ofChange settleWholesSpec)) settleWholesCard

/-- THE TIED CARD OF 'bookendlaw22.SettleCompacts'. -/
def settleCompactsCard : Claim7 := { stood := { row := settleCompactsRow, standIns := [], harness := (true, "fa695c7738113873bbefe053482f2e0fd8dc2368312aa9ad4feb857289f4ce80"), looks := true }, kinds := [], alts := [], laidByText := true, laidKinds := [.handle, .sentinel], laidTests := true, laidLooks := .later }
def SettleCompactsCardSaid : Prop := Claim7.holds Tryz.pinned (.plain (OpenSpec.ofChange settleCompactsSpec)) settleCompactsCard

/-- THE TIED CARD OF 'bookendlaw22.SettleCosts'. -/
def settleCostsCard : Claim7 := { stood := { row := settleCostsRow, standIns := [], harness := (true, "fa695c7738113873bbefe053482f2e0fd8dc2368312aa9ad4feb857289f4ce80"), looks := true }, kinds := [], alts := [], laidByText := true, laidKinds := [.handle, .sentinel], laidTests := true, laidLooks := .later }
def SettleCostsCardSaid : Prop := Claim7.holds Tryz.pinned (.plain (OpenSpec.ofChange settleCostsSpec)) settleCostsCard

/-- THE SECOND FORM's CARD OF 'bookendlaw22.SettleWholes'. -/
def settleWholesUptoCard : Claim7 := { stood := { row := settleWholesUptoRow, standIns := [], harness := (true, "fa695c7738113873bbefe053482f2e0fd8dc2368312aa9ad4feb857289f4ce80"), looks := true }, kinds := [], alts := [], laidByText := true, laidKinds := [.handle, .sentinel], laidTests := true, laidLooks := .later }
def SettleWholesUptoCardSaid : Prop := Claim7.holds Tryz.pinned (.plain (OpenSpec.upto settleWholesSpec)) settleWholesUptoCard

/-- THE SECOND FORM's CARD OF 'bookendlaw22.SettleCompacts'. -/
def settleCompactsUptoCard : Claim7 := { stood := { row := settleCompactsUptoRow, standIns := [], harness := (true, "fa695c7738113873bbefe053482f2e0fd8dc2368312aa9ad4feb857289f4ce80"), looks := true }, kinds := [], alts := [], laidByText := true, laidKinds := [.handle, .sentinel], laidTests := true, laidLooks := .later }
def SettleCompactsUptoCardSaid : Prop := Claim7.holds Tryz.pinned (.plain (OpenSpec.upto settleCompactsSpec)) settleCompactsUptoCard

/-- THE SECOND FORM's CARD OF 'bookendlaw22.SettleCosts'. -/
def settleCostsUptoCard : Claim7 := { stood := { row := settleCostsUptoRow, standIns := [], harness := (true, "fa695c7738113873bbefe053482f2e0fd8dc2368312aa9ad4feb857289f4ce80"), looks := true }, kinds := [], alts := [], laidByText := true, laidKinds := [.handle, .sentinel], laidTests := true, laidLooks := .later }
def SettleCostsUptoCardSaid : Prop := Claim7.holds Tryz.pinned (.plain (OpenSpec.upto settleCostsSpec)) settleCostsUptoCard
end Rows
end Go.Proofs.YtoefnfbpoabinaaGreatDoor
