/-
  DERIVED. GIVEN WITH THE SEED: THE CARDS: each row of YtfipnhjfbebeiaaGreatDoorRows.lean that lists a variable, with what it lists TIED to the program's text (the seventh form; the later family's looks); each row that meets fmt, with fmt's text TOLD by the authors' own Lean function (tested against real Go, not proved from fmt's source: count such statements apart). THE CARD IS WHAT COUNTS. Prove the row's statement (the work); the ties are given (YtfipnhjfbebeiaaGreatDoorTie.lean); close each card by the builder's one call (the guide's Derived/Test/ToyasCard.lean, 'card_holds'). Laid BY PROGRAM, IN A SANDBOX (cutbox-door.mjs). By AI agents, Wed Nov 11 2026. No macro, syntax, notation, axiom, sorry.
-/
import Derived.Test.YtfipnhjfbebeiaaGreatDoorRows
import GoSem.ClaimSeven
namespace Go.Proofs.YtfipnhjfbebeiaaGreatDoor
namespace Rows

/-- THE TIED CARD OF 'bookendlaw18.DebtRuns'. -/
def debtRunsCard : Claim7 := { stood := { row := debtRunsRow, standIns := [], harness := (true, "bed078746766a3e7a071d6367d09d270ec5ea6aa973d1efc45beebcd734820bf"), looks := true }, kinds := [], alts := [], laidByText := true, laidKinds := [.handle, .sentinel], laidTests := true, laidLooks := .later }
def DebtRunsCardSaid : Prop := Claim7.holds Tryz.pinned (.plain (OpenSpec.ofChange debtRunsSpec)) debtRunsCard

/-- THE TIED CARD OF 'bookendlaw18.DebtSettles'. -/
def debtSettlesCard : Claim7 := { stood := { row := debtSettlesRow, standIns := [], harness := (true, "bed078746766a3e7a071d6367d09d270ec5ea6aa973d1efc45beebcd734820bf"), looks := true }, kinds := [], alts := [], laidByText := true, laidKinds := [.handle, .sentinel], laidTests := true, laidLooks := .later }
def DebtSettlesCardSaid : Prop := Claim7.holds Tryz.pinned (.plain (OpenSpec.ofChange debtSettlesSpec)) debtSettlesCard

/-- THE SECOND FORM's CARD OF 'bookendlaw18.DebtRuns'. -/
def debtRunsUptoCard : Claim7 := { stood := { row := debtRunsUptoRow, standIns := [], harness := (true, "bed078746766a3e7a071d6367d09d270ec5ea6aa973d1efc45beebcd734820bf"), looks := true }, kinds := [], alts := [], laidByText := true, laidKinds := [.handle, .sentinel], laidTests := true, laidLooks := .later }
def DebtRunsUptoCardSaid : Prop := Claim7.holds Tryz.pinned (.plain (OpenSpec.upto debtRunsSpec)) debtRunsUptoCard

/-- THE SECOND FORM's CARD OF 'bookendlaw18.DebtSettles'. -/
def debtSettlesUptoCard : Claim7 := { stood := { row := debtSettlesUptoRow, standIns := [], harness := (true, "bed078746766a3e7a071d6367d09d270ec5ea6aa973d1efc45beebcd734820bf"), looks := true }, kinds := [], alts := [], laidByText := true, laidKinds := [.handle, .sentinel], laidTests := true, laidLooks := .later }
def DebtSettlesUptoCardSaid : Prop := Claim7.holds Tryz.pinned (.plain (OpenSpec.upto debtSettlesSpec)) debtSettlesUptoCard
end Rows
end Go.Proofs.YtfipnhjfbebeiaaGreatDoor
