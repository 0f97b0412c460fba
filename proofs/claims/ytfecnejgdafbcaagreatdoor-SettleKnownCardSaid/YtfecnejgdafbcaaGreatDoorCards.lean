/-
  DERIVED. GIVEN WITH THE SEED: THE CARDS: each row of YtfecnejgdafbcaaGreatDoorRows.lean that lists a variable, with what it lists TIED to the program's text (the seventh form; the later family's looks); each row that meets fmt, with fmt's text TOLD by the authors' own Lean function (tested against real Go, not proved from fmt's source: count such statements apart). THE CARD IS WHAT COUNTS. Prove the row's statement (the work); the ties are given (YtfecnejgdafbcaaGreatDoorTie.lean); close each card by the builder's one call (the guide's Derived/Test/ToyasCard.lean, 'card_holds'). Laid BY PROGRAM, IN A SANDBOX (cutbox-door.mjs). By AI agents, Wed Nov 11 2026. No macro, syntax, notation, axiom, sorry.
-/
import Derived.Test.YtfecnejgdafbcaaGreatDoorRows
import GoSem.ClaimSeven
namespace Go.Proofs.YtfecnejgdafbcaaGreatDoor
namespace Rows

/-- THE TIED CARD OF 'bookendlaw18.DebtKnown'. -/
def debtKnownCard : Claim7 := { stood := { row := debtKnownRow, standIns := [], harness := (true, "0a63b3d102b34163581eba9bef20634faacdd0443af7a0de175bf065dcd04d20"), looks := true }, kinds := [], alts := [], goes := true, laidByText := true, laidKinds := [.handle, .sentinel], laidTests := true, laidLooks := .later }
def DebtKnownCardSaid : Prop := Claim7.holds Tryz.pinned (.plain (OpenSpec.ofChange debtKnownSpec)) debtKnownCard

/-- THE TIED CARD OF 'bookendlaw21.SchedKnown'. -/
def schedKnownCard : Claim7 := { stood := { row := schedKnownRow, standIns := [], harness := (true, "0a63b3d102b34163581eba9bef20634faacdd0443af7a0de175bf065dcd04d20"), looks := true }, kinds := [], alts := [], goes := true, laidByText := true, laidKinds := [.handle], laidTests := true, laidLooks := .later }
def SchedKnownCardSaid : Prop := Claim7.holds Tryz.pinned (.plain (OpenSpec.ofChange schedKnownSpec)) schedKnownCard

/-- THE TIED CARD OF 'bookendlaw22.SettleKnown'. -/
def settleKnownCard : Claim7 := { stood := { row := settleKnownRow, standIns := [], harness := (true, "0a63b3d102b34163581eba9bef20634faacdd0443af7a0de175bf065dcd04d20"), looks := true }, kinds := [], alts := [], goes := true, laidByText := true, laidKinds := [.handle, .sentinel], laidTests := true, laidLooks := .later }
def SettleKnownCardSaid : Prop := Claim7.holds Tryz.pinned (.plain (OpenSpec.ofChange settleKnownSpec)) settleKnownCard

/-- THE TIED CARD OF 'bookendlaw30.PmapKnown'. -/
def pmapKnownCard : Claim7 := { stood := { row := pmapKnownRow, standIns := [], harness := (true, "0a63b3d102b34163581eba9bef20634faacdd0443af7a0de175bf065dcd04d20"), looks := true }, kinds := [], alts := [], goes := true, laidByText := true, laidKinds := [.handle, .data, .sentinel, .sentinel], laidTests := true, laidLooks := .later }
def PmapKnownCardSaid : Prop := Claim7.holds Tryz.pinned (.plain (OpenSpec.ofChange pmapKnownSpec)) pmapKnownCard

/-- THE SECOND FORM's CARD OF 'bookendlaw18.DebtKnown'. -/
def debtKnownUptoCard : Claim7 := { stood := { row := debtKnownUptoRow, standIns := [], harness := (true, "0a63b3d102b34163581eba9bef20634faacdd0443af7a0de175bf065dcd04d20"), looks := true }, kinds := [], alts := [], goes := true, laidByText := true, laidKinds := [.handle, .sentinel], laidTests := true, laidLooks := .later }
def DebtKnownUptoCardSaid : Prop := Claim7.holds Tryz.pinned (.plain (OpenSpec.upto debtKnownSpec)) debtKnownUptoCard

/-- THE SECOND FORM's CARD OF 'bookendlaw21.SchedKnown'. -/
def schedKnownUptoCard : Claim7 := { stood := { row := schedKnownUptoRow, standIns := [], harness := (true, "0a63b3d102b34163581eba9bef20634faacdd0443af7a0de175bf065dcd04d20"), looks := true }, kinds := [], alts := [], goes := true, laidByText := true, laidKinds := [.handle], laidTests := true, laidLooks := .later }
def SchedKnownUptoCardSaid : Prop := Claim7.holds Tryz.pinned (.plain (OpenSpec.upto schedKnownSpec)) schedKnownUptoCard

/-- THE SECOND FORM's CARD OF 'bookendlaw22.SettleKnown'. -/
def settleKnownUptoCard : Claim7 := { stood := { row := settleKnownUptoRow, standIns := [], harness := (true, "0a63b3d102b34163581eba9bef20634faacdd0443af7a0de175bf065dcd04d20"), looks := true }, kinds := [], alts := [], goes := true, laidByText := true, laidKinds := [.handle, .sentinel], laidTests := true, laidLooks := .later }
def SettleKnownUptoCardSaid : Prop := Claim7.holds Tryz.pinned (.plain (OpenSpec.upto settleKnownSpec)) settleKnownUptoCard
end Rows
end Go.Proofs.YtfecnejgdafbcaaGreatDoor
