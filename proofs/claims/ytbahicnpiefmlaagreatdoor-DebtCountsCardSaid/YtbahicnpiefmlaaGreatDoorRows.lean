/-
  NARROWER THAN 'FOR EVERY INPUT', by the rows' own cells (each row's printed sentence says how): DebtCounts: laid · DebtRuns: laid · DebtSettles: laid · DebtFalls: laid · BoundsDebt: laid · SettleDrains: laid · SettleKeeps: laid · SettleRests: laid · SettleCompacts: laid · SettleCosts: laid · SettleWholes: laid · SettleTidy: laid.
  DERIVED. THE GIVEN ROWS OF THIS SEAT. 12 by the template 'for every input the law returns true; each argument reads behind the call as it read before'; 0 by the template 'total and deterministic' (their statements: YtbahicnpiefmlaaGreatDoorTotals.lean).
  GIVEN WITH THE SEED: the statements are not yours to turn. If you find one false, say at which input.
  Laid BY PROGRAM, IN A SANDBOX (cutbox-rows.mjs): the forced cells as the released guide's own fill.sh prints them over the translation 929c363b675381d9… (all of the seat's roots in one cut). By AI agents, Wed Nov 11 2026. No macro, syntax, notation, axiom, sorry.
-/
import Derived.Test.YtbahicnpiefmlaaGreatDoorChecked
import GoSem.Claim
import GoSem.ClaimJoined
import GoSem.ClaimMapViews
import Derived.JoinedTies
import Derived.KernelRfl
namespace Go.Proofs.YtbahicnpiefmlaaGreatDoor
/- THE CELL 'sum', in the pinned program and in every row, IS THE sha256 OF THE DUMP (.gsa) THAT YtbahicnpiefmlaaGreatDoorProg.lean LOADS. Nothing in Lean hashes anything: it is a label: what it is worth is what the hold of that sum in a sandbox is worth. -/
noncomputable def Tryz.pinned : Pinned := { name := "ytbahicnpiefmlaagreatdoor", sum := "929c363b675381d9e0e1da0dac3d64f6e3a47dbb8a49c6114c1cd862a8cd2077", checked := Tryz.checked }
namespace Rows
def none {H : Type} : Left H := { results := [], args := [] }

/- WHAT THE LISTED PACKAGE-LEVEL VARIABLES READ AS WHEN THE CALL BEGINS. Each datum BY PROGRAM (the guide's laid-datum.mjs) off the statement by which the dump's own 'gosem.cut.vars' lays the variable. In a bare row this is a premise. The card (YtbahicnpiefmlaaGreatDoorCards.lean) ties it to the program's text. -/
def laid_errors_errorType {H : Type} : DataW H := .iface "internal/reflectlite.rtype" (.agg [.ptr (.lit (.string [101, 114, 114, 111, 114]))])
def laid_bookend_debt_errSettled {H : Type} : DataW H := .iface "*errors.errorString" (.ptr (.agg [.lit (.string [115, 101, 116, 116, 108, 101, 100])]))

/-- 'bookendlaw18.DebtCounts': WHATEVER THE INPUT: true; the input reads as it did. -/
def debtCountsSpec : ChangeSpec := { name := "debtCounts", fn := fun _ => fun
  | [d1, d2] => { results := [.lit (.bool true)], args := [d1, d2] }
  | _ => none }
def debtCountsRow : OpenClaim := { program := "ytbahicnpiefmlaagreatdoor", sum := "929c363b675381d9e0e1da0dac3d64f6e3a47dbb8a49c6114c1cd862a8cd2077", func := "bookend/bookendlaw18.DebtCounts", spec := "debtCounts", inPlace := ["internal/reflectlite.ValueOf", "(internal/reflectlite.Value).Type", "(internal/reflectlite.Value).IsNil", "internal/reflectlite.TypeOf", "(internal/reflectlite.Value).Elem", "(internal/reflectlite.Value).Set"], unfollowed := true, recurses := true, named := ["bookend/debt.errSettled", "errors.errorType"], apart := false, laid := [("errors.errorType", laid_errors_errorType), ("bookend/debt.errSettled", laid_bookend_debt_errSettled)] }
def DebtCountsSaid : Prop := debtCountsRow.holds Tryz.pinned (OpenSpec.ofChange debtCountsSpec)

/-- ITS FALSE NEIGHBOUR: 'it returns false'. Refute it at one input. -/
def debtCountsWrong : ChangeSpec := { name := "debtCounts", fn := fun _ => fun
  | [d1, d2] => { results := [.lit (.bool false)], args := [d1, d2] }
  | _ => none }
def DebtCountsWrongFalsely : Prop := debtCountsRow.holds Tryz.pinned (OpenSpec.ofChange debtCountsWrong)

/-- 'bookendlaw18.DebtRuns': WHATEVER THE INPUT: true; the input reads as it did. -/
def debtRunsSpec : ChangeSpec := { name := "debtRuns", fn := fun _ => fun
  | [d1, d2] => { results := [.lit (.bool true)], args := [d1, d2] }
  | _ => none }
def debtRunsRow : OpenClaim := { program := "ytbahicnpiefmlaagreatdoor", sum := "929c363b675381d9e0e1da0dac3d64f6e3a47dbb8a49c6114c1cd862a8cd2077", func := "bookend/bookendlaw18.DebtRuns", spec := "debtRuns", inPlace := ["internal/reflectlite.ValueOf", "(internal/reflectlite.Value).Type", "(internal/reflectlite.Value).IsNil", "internal/reflectlite.TypeOf", "(internal/reflectlite.Value).Elem", "(internal/reflectlite.Value).Set"], unfollowed := true, recurses := true, named := ["bookend/debt.errSettled", "errors.errorType"], apart := false, laid := [("errors.errorType", laid_errors_errorType), ("bookend/debt.errSettled", laid_bookend_debt_errSettled)] }
def DebtRunsSaid : Prop := debtRunsRow.holds Tryz.pinned (OpenSpec.ofChange debtRunsSpec)

/-- ITS FALSE NEIGHBOUR: 'it returns false'. Refute it at one input. -/
def debtRunsWrong : ChangeSpec := { name := "debtRuns", fn := fun _ => fun
  | [d1, d2] => { results := [.lit (.bool false)], args := [d1, d2] }
  | _ => none }
def DebtRunsWrongFalsely : Prop := debtRunsRow.holds Tryz.pinned (OpenSpec.ofChange debtRunsWrong)

/-- 'bookendlaw18.DebtSettles': WHATEVER THE INPUT: true; the input reads as it did. -/
def debtSettlesSpec : ChangeSpec := { name := "debtSettles", fn := fun _ => fun
  | [d] => { results := [.lit (.bool true)], args := [d] }
  | _ => none }
def debtSettlesRow : OpenClaim := { program := "ytbahicnpiefmlaagreatdoor", sum := "929c363b675381d9e0e1da0dac3d64f6e3a47dbb8a49c6114c1cd862a8cd2077", func := "bookend/bookendlaw18.DebtSettles", spec := "debtSettles", inPlace := ["internal/reflectlite.ValueOf", "(internal/reflectlite.Value).Type", "(internal/reflectlite.Value).IsNil", "internal/reflectlite.TypeOf", "(internal/reflectlite.Value).Elem", "(internal/reflectlite.Value).Set"], unfollowed := true, recurses := true, named := ["bookend/debt.errSettled", "errors.errorType"], apart := false, laid := [("errors.errorType", laid_errors_errorType), ("bookend/debt.errSettled", laid_bookend_debt_errSettled)] }
def DebtSettlesSaid : Prop := debtSettlesRow.holds Tryz.pinned (OpenSpec.ofChange debtSettlesSpec)

/-- ITS FALSE NEIGHBOUR: 'it returns false'. Refute it at one input. -/
def debtSettlesWrong : ChangeSpec := { name := "debtSettles", fn := fun _ => fun
  | [d] => { results := [.lit (.bool false)], args := [d] }
  | _ => none }
def DebtSettlesWrongFalsely : Prop := debtSettlesRow.holds Tryz.pinned (OpenSpec.ofChange debtSettlesWrong)

/-- 'bookendlaw18.DebtFalls': WHATEVER THE INPUT: true; the input reads as it did. -/
def debtFallsSpec : ChangeSpec := { name := "debtFalls", fn := fun _ => fun
  | [d1, d2] => { results := [.lit (.bool true)], args := [d1, d2] }
  | _ => none }
def debtFallsRow : OpenClaim := { program := "ytbahicnpiefmlaagreatdoor", sum := "929c363b675381d9e0e1da0dac3d64f6e3a47dbb8a49c6114c1cd862a8cd2077", func := "bookend/bookendlaw18.DebtFalls", spec := "debtFalls", inPlace := ["internal/reflectlite.ValueOf", "(internal/reflectlite.Value).Type", "(internal/reflectlite.Value).IsNil", "internal/reflectlite.TypeOf", "(internal/reflectlite.Value).Elem", "(internal/reflectlite.Value).Set"], unfollowed := true, recurses := true, named := ["bookend/debt.errSettled", "errors.errorType"], apart := false, laid := [("errors.errorType", laid_errors_errorType), ("bookend/debt.errSettled", laid_bookend_debt_errSettled)] }
def DebtFallsSaid : Prop := debtFallsRow.holds Tryz.pinned (OpenSpec.ofChange debtFallsSpec)

/-- ITS FALSE NEIGHBOUR: 'it returns false'. Refute it at one input. -/
def debtFallsWrong : ChangeSpec := { name := "debtFalls", fn := fun _ => fun
  | [d1, d2] => { results := [.lit (.bool false)], args := [d1, d2] }
  | _ => none }
def DebtFallsWrongFalsely : Prop := debtFallsRow.holds Tryz.pinned (OpenSpec.ofChange debtFallsWrong)

/-- 'bookendlaw34.BoundsDebt': WHATEVER THE INPUT: true; the input reads as it did. -/
def boundsDebtSpec : ChangeSpec := { name := "boundsDebt", fn := fun _ => fun
  | [d] => { results := [.lit (.bool true)], args := [d] }
  | _ => none }
def boundsDebtRow : OpenClaim := { program := "ytbahicnpiefmlaagreatdoor", sum := "929c363b675381d9e0e1da0dac3d64f6e3a47dbb8a49c6114c1cd862a8cd2077", func := "bookend/bookendlaw34.BoundsDebt", spec := "boundsDebt", inPlace := ["internal/reflectlite.ValueOf", "(internal/reflectlite.Value).Type", "(internal/reflectlite.Value).IsNil", "internal/reflectlite.TypeOf", "(internal/reflectlite.Value).Elem", "(internal/reflectlite.Value).Set"], unfollowed := true, recurses := true, named := ["bookend/debt.errSettled", "errors.errorType"], apart := false, laid := [("errors.errorType", laid_errors_errorType), ("bookend/debt.errSettled", laid_bookend_debt_errSettled)] }
def BoundsDebtSaid : Prop := boundsDebtRow.holds Tryz.pinned (OpenSpec.ofChange boundsDebtSpec)

/-- ITS FALSE NEIGHBOUR: 'it returns false'. Refute it at one input. -/
def boundsDebtWrong : ChangeSpec := { name := "boundsDebt", fn := fun _ => fun
  | [d] => { results := [.lit (.bool false)], args := [d] }
  | _ => none }
def BoundsDebtWrongFalsely : Prop := boundsDebtRow.holds Tryz.pinned (OpenSpec.ofChange boundsDebtWrong)

/-- 'bookendlaw22.SettleDrains': WHATEVER THE INPUT: true; the input reads as it did. -/
def settleDrainsSpec : ChangeSpec := { name := "settleDrains", fn := fun _ => fun
  | [d] => { results := [.lit (.bool true)], args := [d] }
  | _ => none }
def settleDrainsRow : OpenClaim := { program := "ytbahicnpiefmlaagreatdoor", sum := "929c363b675381d9e0e1da0dac3d64f6e3a47dbb8a49c6114c1cd862a8cd2077", func := "bookend/bookendlaw22.SettleDrains", spec := "settleDrains", inPlace := ["internal/reflectlite.ValueOf", "(internal/reflectlite.Value).Type", "(internal/reflectlite.Value).IsNil", "internal/reflectlite.TypeOf", "(internal/reflectlite.Value).Elem", "(internal/reflectlite.Value).Set", "internal/bytealg.abigen_runtime_cmpstring"], unfollowed := true, recurses := true, named := ["bookend/debt.errSettled", "errors.errorType"], apart := false, laid := [("errors.errorType", laid_errors_errorType), ("bookend/debt.errSettled", laid_bookend_debt_errSettled)] }
def SettleDrainsSaid : Prop := settleDrainsRow.holds Tryz.pinned (OpenSpec.ofChange settleDrainsSpec)

/-- ITS FALSE NEIGHBOUR: 'it returns false'. Refute it at one input. -/
def settleDrainsWrong : ChangeSpec := { name := "settleDrains", fn := fun _ => fun
  | [d] => { results := [.lit (.bool false)], args := [d] }
  | _ => none }
def SettleDrainsWrongFalsely : Prop := settleDrainsRow.holds Tryz.pinned (OpenSpec.ofChange settleDrainsWrong)

/-- 'bookendlaw22.SettleKeeps': WHATEVER THE INPUT: true; the input reads as it did. -/
def settleKeepsSpec : ChangeSpec := { name := "settleKeeps", fn := fun _ => fun
  | [d] => { results := [.lit (.bool true)], args := [d] }
  | _ => none }
def settleKeepsRow : OpenClaim := { program := "ytbahicnpiefmlaagreatdoor", sum := "929c363b675381d9e0e1da0dac3d64f6e3a47dbb8a49c6114c1cd862a8cd2077", func := "bookend/bookendlaw22.SettleKeeps", spec := "settleKeeps", inPlace := ["internal/reflectlite.ValueOf", "(internal/reflectlite.Value).Type", "(internal/reflectlite.Value).IsNil", "internal/reflectlite.TypeOf", "(internal/reflectlite.Value).Elem", "(internal/reflectlite.Value).Set", "internal/bytealg.abigen_runtime_cmpstring"], unfollowed := true, recurses := true, named := ["bookend/debt.errSettled", "errors.errorType"], apart := false, laid := [("errors.errorType", laid_errors_errorType), ("bookend/debt.errSettled", laid_bookend_debt_errSettled)] }
def SettleKeepsSaid : Prop := settleKeepsRow.holds Tryz.pinned (OpenSpec.ofChange settleKeepsSpec)

/-- ITS FALSE NEIGHBOUR: 'it returns false'. Refute it at one input. -/
def settleKeepsWrong : ChangeSpec := { name := "settleKeeps", fn := fun _ => fun
  | [d] => { results := [.lit (.bool false)], args := [d] }
  | _ => none }
def SettleKeepsWrongFalsely : Prop := settleKeepsRow.holds Tryz.pinned (OpenSpec.ofChange settleKeepsWrong)

/-- 'bookendlaw22.SettleRests': WHATEVER THE INPUT: true; the input reads as it did. -/
def settleRestsSpec : ChangeSpec := { name := "settleRests", fn := fun _ => fun
  | [d] => { results := [.lit (.bool true)], args := [d] }
  | _ => none }
def settleRestsRow : OpenClaim := { program := "ytbahicnpiefmlaagreatdoor", sum := "929c363b675381d9e0e1da0dac3d64f6e3a47dbb8a49c6114c1cd862a8cd2077", func := "bookend/bookendlaw22.SettleRests", spec := "settleRests", inPlace := ["internal/reflectlite.ValueOf", "(internal/reflectlite.Value).Type", "(internal/reflectlite.Value).IsNil", "internal/reflectlite.TypeOf", "(internal/reflectlite.Value).Elem", "(internal/reflectlite.Value).Set", "internal/bytealg.abigen_runtime_cmpstring"], unfollowed := true, recurses := true, named := ["bookend/debt.errSettled", "errors.errorType"], apart := false, laid := [("errors.errorType", laid_errors_errorType), ("bookend/debt.errSettled", laid_bookend_debt_errSettled)] }
def SettleRestsSaid : Prop := settleRestsRow.holds Tryz.pinned (OpenSpec.ofChange settleRestsSpec)

/-- ITS FALSE NEIGHBOUR: 'it returns false'. Refute it at one input. -/
def settleRestsWrong : ChangeSpec := { name := "settleRests", fn := fun _ => fun
  | [d] => { results := [.lit (.bool false)], args := [d] }
  | _ => none }
def SettleRestsWrongFalsely : Prop := settleRestsRow.holds Tryz.pinned (OpenSpec.ofChange settleRestsWrong)

/-- 'bookendlaw22.SettleCompacts': WHATEVER THE INPUT: true; the input reads as it did. -/
def settleCompactsSpec : ChangeSpec := { name := "settleCompacts", fn := fun _ => fun
  | [d] => { results := [.lit (.bool true)], args := [d] }
  | _ => none }
def settleCompactsRow : OpenClaim := { program := "ytbahicnpiefmlaagreatdoor", sum := "929c363b675381d9e0e1da0dac3d64f6e3a47dbb8a49c6114c1cd862a8cd2077", func := "bookend/bookendlaw22.SettleCompacts", spec := "settleCompacts", inPlace := ["internal/reflectlite.ValueOf", "(internal/reflectlite.Value).Type", "(internal/reflectlite.Value).IsNil", "internal/reflectlite.TypeOf", "(internal/reflectlite.Value).Elem", "(internal/reflectlite.Value).Set", "internal/bytealg.abigen_runtime_cmpstring"], unfollowed := true, recurses := true, named := ["bookend/debt.errSettled", "errors.errorType"], apart := false, laid := [("errors.errorType", laid_errors_errorType), ("bookend/debt.errSettled", laid_bookend_debt_errSettled)] }
def SettleCompactsSaid : Prop := settleCompactsRow.holds Tryz.pinned (OpenSpec.ofChange settleCompactsSpec)

/-- ITS FALSE NEIGHBOUR: 'it returns false'. Refute it at one input. -/
def settleCompactsWrong : ChangeSpec := { name := "settleCompacts", fn := fun _ => fun
  | [d] => { results := [.lit (.bool false)], args := [d] }
  | _ => none }
def SettleCompactsWrongFalsely : Prop := settleCompactsRow.holds Tryz.pinned (OpenSpec.ofChange settleCompactsWrong)

/-- 'bookendlaw22.SettleCosts': WHATEVER THE INPUT: true; the input reads as it did. -/
def settleCostsSpec : ChangeSpec := { name := "settleCosts", fn := fun _ => fun
  | [d] => { results := [.lit (.bool true)], args := [d] }
  | _ => none }
def settleCostsRow : OpenClaim := { program := "ytbahicnpiefmlaagreatdoor", sum := "929c363b675381d9e0e1da0dac3d64f6e3a47dbb8a49c6114c1cd862a8cd2077", func := "bookend/bookendlaw22.SettleCosts", spec := "settleCosts", inPlace := ["internal/reflectlite.ValueOf", "(internal/reflectlite.Value).Type", "(internal/reflectlite.Value).IsNil", "internal/reflectlite.TypeOf", "(internal/reflectlite.Value).Elem", "(internal/reflectlite.Value).Set", "internal/bytealg.abigen_runtime_cmpstring"], unfollowed := true, recurses := true, named := ["bookend/debt.errSettled", "errors.errorType"], apart := false, laid := [("errors.errorType", laid_errors_errorType), ("bookend/debt.errSettled", laid_bookend_debt_errSettled)] }
def SettleCostsSaid : Prop := settleCostsRow.holds Tryz.pinned (OpenSpec.ofChange settleCostsSpec)

/-- ITS FALSE NEIGHBOUR: 'it returns false'. Refute it at one input. -/
def settleCostsWrong : ChangeSpec := { name := "settleCosts", fn := fun _ => fun
  | [d] => { results := [.lit (.bool false)], args := [d] }
  | _ => none }
def SettleCostsWrongFalsely : Prop := settleCostsRow.holds Tryz.pinned (OpenSpec.ofChange settleCostsWrong)

/-- 'bookendlaw22.SettleWholes': WHATEVER THE INPUT: true; the input reads as it did. -/
def settleWholesSpec : ChangeSpec := { name := "settleWholes", fn := fun _ => fun
  | [d] => { results := [.lit (.bool true)], args := [d] }
  | _ => none }
def settleWholesRow : OpenClaim := { program := "ytbahicnpiefmlaagreatdoor", sum := "929c363b675381d9e0e1da0dac3d64f6e3a47dbb8a49c6114c1cd862a8cd2077", func := "bookend/bookendlaw22.SettleWholes", spec := "settleWholes", inPlace := ["internal/reflectlite.ValueOf", "(internal/reflectlite.Value).Type", "(internal/reflectlite.Value).IsNil", "internal/reflectlite.TypeOf", "(internal/reflectlite.Value).Elem", "(internal/reflectlite.Value).Set", "internal/bytealg.abigen_runtime_cmpstring"], unfollowed := true, recurses := true, named := ["bookend/debt.errSettled", "errors.errorType"], apart := false, laid := [("errors.errorType", laid_errors_errorType), ("bookend/debt.errSettled", laid_bookend_debt_errSettled)] }
def SettleWholesSaid : Prop := settleWholesRow.holds Tryz.pinned (OpenSpec.ofChange settleWholesSpec)

/-- ITS FALSE NEIGHBOUR: 'it returns false'. Refute it at one input. -/
def settleWholesWrong : ChangeSpec := { name := "settleWholes", fn := fun _ => fun
  | [d] => { results := [.lit (.bool false)], args := [d] }
  | _ => none }
def SettleWholesWrongFalsely : Prop := settleWholesRow.holds Tryz.pinned (OpenSpec.ofChange settleWholesWrong)

/-- 'bookendlaw22.SettleTidy': WHATEVER THE INPUT: true; the input reads as it did. -/
def settleTidySpec : ChangeSpec := { name := "settleTidy", fn := fun _ => fun
  | [d] => { results := [.lit (.bool true)], args := [d] }
  | _ => none }
def settleTidyRow : OpenClaim := { program := "ytbahicnpiefmlaagreatdoor", sum := "929c363b675381d9e0e1da0dac3d64f6e3a47dbb8a49c6114c1cd862a8cd2077", func := "bookend/bookendlaw22.SettleTidy", spec := "settleTidy", inPlace := ["internal/reflectlite.ValueOf", "(internal/reflectlite.Value).Type", "(internal/reflectlite.Value).IsNil", "internal/reflectlite.TypeOf", "(internal/reflectlite.Value).Elem", "(internal/reflectlite.Value).Set", "internal/bytealg.abigen_runtime_cmpstring"], unfollowed := true, recurses := true, named := ["bookend/debt.errSettled", "errors.errorType"], apart := false, laid := [("errors.errorType", laid_errors_errorType), ("bookend/debt.errSettled", laid_bookend_debt_errSettled)] }
def SettleTidySaid : Prop := settleTidyRow.holds Tryz.pinned (OpenSpec.ofChange settleTidySpec)

/-- ITS FALSE NEIGHBOUR: 'it returns false'. Refute it at one input. -/
def settleTidyWrong : ChangeSpec := { name := "settleTidy", fn := fun _ => fun
  | [d] => { results := [.lit (.bool false)], args := [d] }
  | _ => none }
def SettleTidyWrongFalsely : Prop := settleTidyRow.holds Tryz.pinned (OpenSpec.ofChange settleTidyWrong)

/- THE SECOND FORM. 'bulk': how many values and letters a reading holds, each counted each time it is reached (what is shared counts as often as it is met; a slice's spare places count too). A statement '..UptoSaid' is the law's where the arguments, and the package variables that the reading takes, are together of bulk at most 1048576: NARROWER than '..Said'. Prove '..Said' where nothing that the law and all that it calls make is longer than what came in: it says more and counts as full. Else prove '..UptoSaid'. A law counts once. -/
mutual
def uptoBulk {H : Type} : DataW H → Nat
  | .lit (.string bytes) => bytes.length + 1
  | .lit _ => 1
  | .nil => 1
  | .ptr d => uptoBulk d + 1
  | .slice elems spare => uptoBulkAll elems + uptoBulkAll spare + 1
  | .agg parts => uptoBulkAll parts + 1
  | .iface _ d => uptoBulk d + 1
  | .map entries => uptoBulkEntries entries + 1
  | .held _ => 1
def uptoBulkAll {H : Type} : List (DataW H) → Nat
  | [] => 0
  | d :: r => uptoBulk d + uptoBulkAll r
def uptoBulkEntries {H : Type} : List (Lit × DataW H) → Nat
  | [] => 0
  | x :: r => uptoBulkEntry x + uptoBulkEntries r
def uptoBulkEntry {H : Type} : Lit × DataW H → Nat
  | (.string bytes, d) => bytes.length + uptoBulk d + 1
  | (_, d) => uptoBulk d + 1
 end
def uptoSmall : (H : Type) → List (DataW H) → Bool := fun _ ds => decide (uptoBulkAll ds ≤ 1048576)
def OpenSpec.upto (s : _root_.Go.ChangeSpec) : _root_.Go.OpenSpec := { _root_.Go.OpenSpec.ofChange s with cond := some uptoSmall }

/-- 'bookendlaw18.DebtCounts', WHERE WHAT IT READS IS OF BULK AT MOST 1048576: true; the input reads as it did. -/
def debtCountsUptoRow : OpenClaim := { program := "ytbahicnpiefmlaagreatdoor", sum := "929c363b675381d9e0e1da0dac3d64f6e3a47dbb8a49c6114c1cd862a8cd2077", func := "bookend/bookendlaw18.DebtCounts", spec := "debtCounts", inPlace := ["internal/reflectlite.ValueOf", "(internal/reflectlite.Value).Type", "(internal/reflectlite.Value).IsNil", "internal/reflectlite.TypeOf", "(internal/reflectlite.Value).Elem", "(internal/reflectlite.Value).Set"], unfollowed := true, recurses := true, named := ["bookend/debt.errSettled", "errors.errorType"], apart := false, laid := [("errors.errorType", laid_errors_errorType), ("bookend/debt.errSettled", laid_bookend_debt_errSettled)], narrowed := true }
def DebtCountsUptoSaid : Prop := debtCountsUptoRow.holds Tryz.pinned (OpenSpec.upto debtCountsSpec)

/-- 'bookendlaw18.DebtRuns', WHERE WHAT IT READS IS OF BULK AT MOST 1048576: true; the input reads as it did. -/
def debtRunsUptoRow : OpenClaim := { program := "ytbahicnpiefmlaagreatdoor", sum := "929c363b675381d9e0e1da0dac3d64f6e3a47dbb8a49c6114c1cd862a8cd2077", func := "bookend/bookendlaw18.DebtRuns", spec := "debtRuns", inPlace := ["internal/reflectlite.ValueOf", "(internal/reflectlite.Value).Type", "(internal/reflectlite.Value).IsNil", "internal/reflectlite.TypeOf", "(internal/reflectlite.Value).Elem", "(internal/reflectlite.Value).Set"], unfollowed := true, recurses := true, named := ["bookend/debt.errSettled", "errors.errorType"], apart := false, laid := [("errors.errorType", laid_errors_errorType), ("bookend/debt.errSettled", laid_bookend_debt_errSettled)], narrowed := true }
def DebtRunsUptoSaid : Prop := debtRunsUptoRow.holds Tryz.pinned (OpenSpec.upto debtRunsSpec)

/-- 'bookendlaw18.DebtSettles', WHERE WHAT IT READS IS OF BULK AT MOST 1048576: true; the input reads as it did. -/
def debtSettlesUptoRow : OpenClaim := { program := "ytbahicnpiefmlaagreatdoor", sum := "929c363b675381d9e0e1da0dac3d64f6e3a47dbb8a49c6114c1cd862a8cd2077", func := "bookend/bookendlaw18.DebtSettles", spec := "debtSettles", inPlace := ["internal/reflectlite.ValueOf", "(internal/reflectlite.Value).Type", "(internal/reflectlite.Value).IsNil", "internal/reflectlite.TypeOf", "(internal/reflectlite.Value).Elem", "(internal/reflectlite.Value).Set"], unfollowed := true, recurses := true, named := ["bookend/debt.errSettled", "errors.errorType"], apart := false, laid := [("errors.errorType", laid_errors_errorType), ("bookend/debt.errSettled", laid_bookend_debt_errSettled)], narrowed := true }
def DebtSettlesUptoSaid : Prop := debtSettlesUptoRow.holds Tryz.pinned (OpenSpec.upto debtSettlesSpec)

/-- 'bookendlaw18.DebtFalls', WHERE WHAT IT READS IS OF BULK AT MOST 1048576: true; the input reads as it did. -/
def debtFallsUptoRow : OpenClaim := { program := "ytbahicnpiefmlaagreatdoor", sum := "929c363b675381d9e0e1da0dac3d64f6e3a47dbb8a49c6114c1cd862a8cd2077", func := "bookend/bookendlaw18.DebtFalls", spec := "debtFalls", inPlace := ["internal/reflectlite.ValueOf", "(internal/reflectlite.Value).Type", "(internal/reflectlite.Value).IsNil", "internal/reflectlite.TypeOf", "(internal/reflectlite.Value).Elem", "(internal/reflectlite.Value).Set"], unfollowed := true, recurses := true, named := ["bookend/debt.errSettled", "errors.errorType"], apart := false, laid := [("errors.errorType", laid_errors_errorType), ("bookend/debt.errSettled", laid_bookend_debt_errSettled)], narrowed := true }
def DebtFallsUptoSaid : Prop := debtFallsUptoRow.holds Tryz.pinned (OpenSpec.upto debtFallsSpec)

/-- 'bookendlaw34.BoundsDebt', WHERE WHAT IT READS IS OF BULK AT MOST 1048576: true; the input reads as it did. -/
def boundsDebtUptoRow : OpenClaim := { program := "ytbahicnpiefmlaagreatdoor", sum := "929c363b675381d9e0e1da0dac3d64f6e3a47dbb8a49c6114c1cd862a8cd2077", func := "bookend/bookendlaw34.BoundsDebt", spec := "boundsDebt", inPlace := ["internal/reflectlite.ValueOf", "(internal/reflectlite.Value).Type", "(internal/reflectlite.Value).IsNil", "internal/reflectlite.TypeOf", "(internal/reflectlite.Value).Elem", "(internal/reflectlite.Value).Set"], unfollowed := true, recurses := true, named := ["bookend/debt.errSettled", "errors.errorType"], apart := false, laid := [("errors.errorType", laid_errors_errorType), ("bookend/debt.errSettled", laid_bookend_debt_errSettled)], narrowed := true }
def BoundsDebtUptoSaid : Prop := boundsDebtUptoRow.holds Tryz.pinned (OpenSpec.upto boundsDebtSpec)

/-- 'bookendlaw22.SettleDrains', WHERE WHAT IT READS IS OF BULK AT MOST 1048576: true; the input reads as it did. -/
def settleDrainsUptoRow : OpenClaim := { program := "ytbahicnpiefmlaagreatdoor", sum := "929c363b675381d9e0e1da0dac3d64f6e3a47dbb8a49c6114c1cd862a8cd2077", func := "bookend/bookendlaw22.SettleDrains", spec := "settleDrains", inPlace := ["internal/reflectlite.ValueOf", "(internal/reflectlite.Value).Type", "(internal/reflectlite.Value).IsNil", "internal/reflectlite.TypeOf", "(internal/reflectlite.Value).Elem", "(internal/reflectlite.Value).Set", "internal/bytealg.abigen_runtime_cmpstring"], unfollowed := true, recurses := true, named := ["bookend/debt.errSettled", "errors.errorType"], apart := false, laid := [("errors.errorType", laid_errors_errorType), ("bookend/debt.errSettled", laid_bookend_debt_errSettled)], narrowed := true }
def SettleDrainsUptoSaid : Prop := settleDrainsUptoRow.holds Tryz.pinned (OpenSpec.upto settleDrainsSpec)

/-- 'bookendlaw22.SettleKeeps', WHERE WHAT IT READS IS OF BULK AT MOST 1048576: true; the input reads as it did. -/
def settleKeepsUptoRow : OpenClaim := { program := "ytbahicnpiefmlaagreatdoor", sum := "929c363b675381d9e0e1da0dac3d64f6e3a47dbb8a49c6114c1cd862a8cd2077", func := "bookend/bookendlaw22.SettleKeeps", spec := "settleKeeps", inPlace := ["internal/reflectlite.ValueOf", "(internal/reflectlite.Value).Type", "(internal/reflectlite.Value).IsNil", "internal/reflectlite.TypeOf", "(internal/reflectlite.Value).Elem", "(internal/reflectlite.Value).Set", "internal/bytealg.abigen_runtime_cmpstring"], unfollowed := true, recurses := true, named := ["bookend/debt.errSettled", "errors.errorType"], apart := false, laid := [("errors.errorType", laid_errors_errorType), ("bookend/debt.errSettled", laid_bookend_debt_errSettled)], narrowed := true }
def SettleKeepsUptoSaid : Prop := settleKeepsUptoRow.holds Tryz.pinned (OpenSpec.upto settleKeepsSpec)

/-- 'bookendlaw22.SettleRests', WHERE WHAT IT READS IS OF BULK AT MOST 1048576: true; the input reads as it did. -/
def settleRestsUptoRow : OpenClaim := { program := "ytbahicnpiefmlaagreatdoor", sum := "929c363b675381d9e0e1da0dac3d64f6e3a47dbb8a49c6114c1cd862a8cd2077", func := "bookend/bookendlaw22.SettleRests", spec := "settleRests", inPlace := ["internal/reflectlite.ValueOf", "(internal/reflectlite.Value).Type", "(internal/reflectlite.Value).IsNil", "internal/reflectlite.TypeOf", "(internal/reflectlite.Value).Elem", "(internal/reflectlite.Value).Set", "internal/bytealg.abigen_runtime_cmpstring"], unfollowed := true, recurses := true, named := ["bookend/debt.errSettled", "errors.errorType"], apart := false, laid := [("errors.errorType", laid_errors_errorType), ("bookend/debt.errSettled", laid_bookend_debt_errSettled)], narrowed := true }
def SettleRestsUptoSaid : Prop := settleRestsUptoRow.holds Tryz.pinned (OpenSpec.upto settleRestsSpec)

/-- 'bookendlaw22.SettleCompacts', WHERE WHAT IT READS IS OF BULK AT MOST 1048576: true; the input reads as it did. -/
def settleCompactsUptoRow : OpenClaim := { program := "ytbahicnpiefmlaagreatdoor", sum := "929c363b675381d9e0e1da0dac3d64f6e3a47dbb8a49c6114c1cd862a8cd2077", func := "bookend/bookendlaw22.SettleCompacts", spec := "settleCompacts", inPlace := ["internal/reflectlite.ValueOf", "(internal/reflectlite.Value).Type", "(internal/reflectlite.Value).IsNil", "internal/reflectlite.TypeOf", "(internal/reflectlite.Value).Elem", "(internal/reflectlite.Value).Set", "internal/bytealg.abigen_runtime_cmpstring"], unfollowed := true, recurses := true, named := ["bookend/debt.errSettled", "errors.errorType"], apart := false, laid := [("errors.errorType", laid_errors_errorType), ("bookend/debt.errSettled", laid_bookend_debt_errSettled)], narrowed := true }
def SettleCompactsUptoSaid : Prop := settleCompactsUptoRow.holds Tryz.pinned (OpenSpec.upto settleCompactsSpec)

/-- 'bookendlaw22.SettleCosts', WHERE WHAT IT READS IS OF BULK AT MOST 1048576: true; the input reads as it did. -/
def settleCostsUptoRow : OpenClaim := { program := "ytbahicnpiefmlaagreatdoor", sum := "929c363b675381d9e0e1da0dac3d64f6e3a47dbb8a49c6114c1cd862a8cd2077", func := "bookend/bookendlaw22.SettleCosts", spec := "settleCosts", inPlace := ["internal/reflectlite.ValueOf", "(internal/reflectlite.Value).Type", "(internal/reflectlite.Value).IsNil", "internal/reflectlite.TypeOf", "(internal/reflectlite.Value).Elem", "(internal/reflectlite.Value).Set", "internal/bytealg.abigen_runtime_cmpstring"], unfollowed := true, recurses := true, named := ["bookend/debt.errSettled", "errors.errorType"], apart := false, laid := [("errors.errorType", laid_errors_errorType), ("bookend/debt.errSettled", laid_bookend_debt_errSettled)], narrowed := true }
def SettleCostsUptoSaid : Prop := settleCostsUptoRow.holds Tryz.pinned (OpenSpec.upto settleCostsSpec)

/-- 'bookendlaw22.SettleWholes', WHERE WHAT IT READS IS OF BULK AT MOST 1048576: true; the input reads as it did. -/
def settleWholesUptoRow : OpenClaim := { program := "ytbahicnpiefmlaagreatdoor", sum := "929c363b675381d9e0e1da0dac3d64f6e3a47dbb8a49c6114c1cd862a8cd2077", func := "bookend/bookendlaw22.SettleWholes", spec := "settleWholes", inPlace := ["internal/reflectlite.ValueOf", "(internal/reflectlite.Value).Type", "(internal/reflectlite.Value).IsNil", "internal/reflectlite.TypeOf", "(internal/reflectlite.Value).Elem", "(internal/reflectlite.Value).Set", "internal/bytealg.abigen_runtime_cmpstring"], unfollowed := true, recurses := true, named := ["bookend/debt.errSettled", "errors.errorType"], apart := false, laid := [("errors.errorType", laid_errors_errorType), ("bookend/debt.errSettled", laid_bookend_debt_errSettled)], narrowed := true }
def SettleWholesUptoSaid : Prop := settleWholesUptoRow.holds Tryz.pinned (OpenSpec.upto settleWholesSpec)

/-- 'bookendlaw22.SettleTidy', WHERE WHAT IT READS IS OF BULK AT MOST 1048576: true; the input reads as it did. -/
def settleTidyUptoRow : OpenClaim := { program := "ytbahicnpiefmlaagreatdoor", sum := "929c363b675381d9e0e1da0dac3d64f6e3a47dbb8a49c6114c1cd862a8cd2077", func := "bookend/bookendlaw22.SettleTidy", spec := "settleTidy", inPlace := ["internal/reflectlite.ValueOf", "(internal/reflectlite.Value).Type", "(internal/reflectlite.Value).IsNil", "internal/reflectlite.TypeOf", "(internal/reflectlite.Value).Elem", "(internal/reflectlite.Value).Set", "internal/bytealg.abigen_runtime_cmpstring"], unfollowed := true, recurses := true, named := ["bookend/debt.errSettled", "errors.errorType"], apart := false, laid := [("errors.errorType", laid_errors_errorType), ("bookend/debt.errSettled", laid_bookend_debt_errSettled)], narrowed := true }
def SettleTidyUptoSaid : Prop := settleTidyUptoRow.holds Tryz.pinned (OpenSpec.upto settleTidySpec)

end Rows
end Go.Proofs.YtbahicnpiefmlaaGreatDoor
