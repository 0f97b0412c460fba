/-
  NARROWER THAN 'FOR EVERY INPUT', by the rows' own cells (each row's printed sentence says how): SettleWholes: laid · SettleCompacts: laid · SettleCosts: laid.
  DERIVED. THE GIVEN ROWS OF THIS SEAT. 3 by the template 'for every input the law returns true; each argument reads behind the call as it read before'; 0 by the template 'total and deterministic' (their statements: YtoefnfbpoabinaaGreatDoorTotals.lean).
  GIVEN WITH THE SEED: the statements are not yours to turn. If you find one false, say at which input.
  Laid BY PROGRAM, IN A SANDBOX (cutbox-rows.mjs): the forced cells as the released guide's own fill.sh prints them over the translation e88aedcde0c2e505… (all of the seat's roots in one cut). By AI agents, Wed Nov 11 2026. No macro, syntax, notation, axiom, sorry.
-/
import Derived.Test.YtoefnfbpoabinaaGreatDoorChecked
import GoSem.Claim
import GoSem.ClaimJoined
import GoSem.ClaimMapViews
import Derived.JoinedTies
import Derived.KernelRfl
namespace Go.Proofs.YtoefnfbpoabinaaGreatDoor
/- THE CELL 'sum', in the pinned program and in every row, IS THE sha256 OF THE DUMP (.gsa) THAT YtoefnfbpoabinaaGreatDoorProg.lean LOADS. Nothing in Lean hashes anything: it is a label: what it is worth is what the hold of that sum in a sandbox is worth. -/
noncomputable def Tryz.pinned : Pinned := { name := "ytoefnfbpoabinaagreatdoor", sum := "e88aedcde0c2e505315312c842827e58595530f584056cbc0d4c5347b2bd8981", checked := Tryz.checked }
namespace Rows
def none {H : Type} : Left H := { results := [], args := [] }

/- WHAT THE LISTED PACKAGE-LEVEL VARIABLES READ AS WHEN THE CALL BEGINS. Each datum BY PROGRAM (the guide's laid-datum.mjs) off the statement by which the dump's own 'gosem.cut.vars' lays the variable. In a bare row this is a premise. The card (YtoefnfbpoabinaaGreatDoorCards.lean) ties it to the program's text. -/
def laid_errors_errorType {H : Type} : DataW H := .iface "internal/reflectlite.rtype" (.agg [.ptr (.lit (.string [101, 114, 114, 111, 114]))])
def laid_bookend_debt_errSettled {H : Type} : DataW H := .iface "*errors.errorString" (.ptr (.agg [.lit (.string [115, 101, 116, 116, 108, 101, 100])]))

/-- 'bookendlaw22.SettleWholes': WHATEVER THE INPUT: true; the input reads as it did. -/
def settleWholesSpec : ChangeSpec := { name := "settleWholes", fn := fun _ => fun
  | [d] => { results := [.lit (.bool true)], args := [d] }
  | _ => none }
def settleWholesRow : OpenClaim := { program := "ytoefnfbpoabinaagreatdoor", sum := "e88aedcde0c2e505315312c842827e58595530f584056cbc0d4c5347b2bd8981", func := "bookend/bookendlaw22.SettleWholes", spec := "settleWholes", inPlace := ["internal/reflectlite.ValueOf", "(internal/reflectlite.Value).Type", "(internal/reflectlite.Value).IsNil", "internal/reflectlite.TypeOf", "(internal/reflectlite.Value).Elem", "(internal/reflectlite.Value).Set", "internal/bytealg.abigen_runtime_cmpstring"], unfollowed := true, recurses := true, named := ["bookend/debt.errSettled", "errors.errorType"], apart := false, laid := [("errors.errorType", laid_errors_errorType), ("bookend/debt.errSettled", laid_bookend_debt_errSettled)] }
def SettleWholesSaid : Prop := settleWholesRow.holds Tryz.pinned (OpenSpec.ofChange settleWholesSpec)

/-- ITS FALSE NEIGHBOUR: 'it returns false'. Refute it at one input. -/
def settleWholesWrong : ChangeSpec := { name := "settleWholes", fn := fun _ => fun
  | [d] => { results := [.lit (.bool false)], args := [d] }
  | _ => none }
def SettleWholesWrongFalsely : Prop := settleWholesRow.holds Tryz.pinned (OpenSpec.ofChange settleWholesWrong)

/-- 'bookendlaw22.SettleCompacts': WHATEVER THE INPUT: true; the input reads as it did. -/
def settleCompactsSpec : ChangeSpec := { name := "settleCompacts", fn := fun _ => fun
  | [d] => { results := [.lit (.bool true)], args := [d] }
  | _ => none }
def settleCompactsRow : OpenClaim := { program := "ytoefnfbpoabinaagreatdoor", sum := "e88aedcde0c2e505315312c842827e58595530f584056cbc0d4c5347b2bd8981", func := "bookend/bookendlaw22.SettleCompacts", spec := "settleCompacts", inPlace := ["internal/reflectlite.ValueOf", "(internal/reflectlite.Value).Type", "(internal/reflectlite.Value).IsNil", "internal/reflectlite.TypeOf", "(internal/reflectlite.Value).Elem", "(internal/reflectlite.Value).Set", "internal/bytealg.abigen_runtime_cmpstring"], unfollowed := true, recurses := true, named := ["bookend/debt.errSettled", "errors.errorType"], apart := false, laid := [("errors.errorType", laid_errors_errorType), ("bookend/debt.errSettled", laid_bookend_debt_errSettled)] }
def SettleCompactsSaid : Prop := settleCompactsRow.holds Tryz.pinned (OpenSpec.ofChange settleCompactsSpec)

/-- ITS FALSE NEIGHBOUR: 'it returns false'. Refute it at one input. -/
def settleCompactsWrong : ChangeSpec := { name := "settleCompacts", fn := fun _ => fun
  | [d] => { results := [.lit (.bool false)], args := [d] }
  | _ => none }
def SettleCompactsWrongFalsely : Prop := settleCompactsRow.holds Tryz.pinned (OpenSpec.ofChange settleCompactsWrong)

/-- 'bookendlaw22.SettleCosts': WHATEVER THE INPUT: true; the input reads as it did. -/
def settleCostsSpec : ChangeSpec := { name := "settleCosts", fn := fun _ => fun
  | [d] => { results := [.lit (.bool true)], args := [d] }
  | _ => none }
def settleCostsRow : OpenClaim := { program := "ytoefnfbpoabinaagreatdoor", sum := "e88aedcde0c2e505315312c842827e58595530f584056cbc0d4c5347b2bd8981", func := "bookend/bookendlaw22.SettleCosts", spec := "settleCosts", inPlace := ["internal/reflectlite.ValueOf", "(internal/reflectlite.Value).Type", "(internal/reflectlite.Value).IsNil", "internal/reflectlite.TypeOf", "(internal/reflectlite.Value).Elem", "(internal/reflectlite.Value).Set", "internal/bytealg.abigen_runtime_cmpstring"], unfollowed := true, recurses := true, named := ["bookend/debt.errSettled", "errors.errorType"], apart := false, laid := [("errors.errorType", laid_errors_errorType), ("bookend/debt.errSettled", laid_bookend_debt_errSettled)] }
def SettleCostsSaid : Prop := settleCostsRow.holds Tryz.pinned (OpenSpec.ofChange settleCostsSpec)

/-- ITS FALSE NEIGHBOUR: 'it returns false'. Refute it at one input. -/
def settleCostsWrong : ChangeSpec := { name := "settleCosts", fn := fun _ => fun
  | [d] => { results := [.lit (.bool false)], args := [d] }
  | _ => none }
def SettleCostsWrongFalsely : Prop := settleCostsRow.holds Tryz.pinned (OpenSpec.ofChange settleCostsWrong)

/- THE SECOND FORM. 'bulk': how many values and letters a reading holds, each counted each time it is reached (what is shared counts as often as it is met; a slice's spare places count too). A statement '..UptoSaid' is the law's where the arguments, and the package variables that the reading takes, are together of bulk at most 1048576: NARROWER than '..Said'. Prove '..Said' where nothing that the law and all that it calls make is longer than what came in: it says more and counts as full. Else prove '..UptoSaid'. A law counts once. -/
mutual
def uptoBulk {H : Type} : DataW H → Nat
  | .lit (.string bytes) => bytes.length + 1
  | .lit _ => 1
  | .nil => 1
  | .ptr d => uptoBulk d + 1
  | .slice elems spare => uptoBulkAll elems + uptoBulkAll spare + 1
  | .agg parts => uptoBulkAll parts + 1
  | .iface _ d => uptoBulk d + 1
  | .map entries => uptoBulkEntries entries + 1
  | .held _ => 1
def uptoBulkAll {H : Type} : List (DataW H) → Nat
  | [] => 0
  | d :: r => uptoBulk d + uptoBulkAll r
def uptoBulkEntries {H : Type} : List (Lit × DataW H) → Nat
  | [] => 0
  | x :: r => uptoBulkEntry x + uptoBulkEntries r
def uptoBulkEntry {H : Type} : Lit × DataW H → Nat
  | (.string bytes, d) => bytes.length + uptoBulk d + 1
  | (_, d) => uptoBulk d + 1
 end
def uptoSmall : (H : Type) → List (DataW H) → Bool := fun _ ds => decide (uptoBulkAll ds ≤ 1048576)
def OpenSpec.upto (s : _root_.Go.ChangeSpec) : _root_.Go.OpenSpec := { _root_.Go.OpenSpec.ofChange s with cond := some uptoSmall }

/-- 'bookendlaw22.SettleWholes', WHERE WHAT IT READS IS OF BULK AT MOST 1048576: true; the input reads as it did. -/
def settleWholesUptoRow : OpenClaim := { program := "ytoefnfbpoabinaagreatdoor", sum := "e88aedcde0c2e505315312c842827e58595530f584056cbc0d4c5347b2bd8981", func := "bookend/bookendlaw22.SettleWholes", spec := "settleWholes", inPlace := ["internal/reflectlite.ValueOf", "(internal/reflectlite.Value).Type", "(internal/reflectlite.Value).IsNil", "internal/reflectlite.TypeOf", "(internal/reflectlite.Value).Elem", "(internal/reflectlite.Value).Set", "internal/bytealg.abigen_runtime_cmpstring"], unfollowed := true, recurses := true, named := ["bookend/debt.errSettled", "errors.errorType"], apart := false, laid := [("errors.errorType", laid_errors_errorType), ("bookend/debt.errSettled", laid_bookend_debt_errSettled)], narrowed := true }
def SettleWholesUptoSaid : Prop := settleWholesUptoRow.holds Tryz.pinned (OpenSpec.upto settleWholesSpec)

/-- 'bookendlaw22.SettleCompacts', WHERE WHAT IT READS IS OF BULK AT MOST 1048576: true; the input reads as it did. -/
def settleCompactsUptoRow : OpenClaim := { program := "ytoefnfbpoabinaagreatdoor", sum := "e88aedcde0c2e505315312c842827e58595530f584056cbc0d4c5347b2bd8981", func := "bookend/bookendlaw22.SettleCompacts", spec := "settleCompacts", inPlace := ["internal/reflectlite.ValueOf", "(internal/reflectlite.Value).Type", "(internal/reflectlite.Value).IsNil", "internal/reflectlite.TypeOf", "(internal/reflectlite.Value).Elem", "(internal/reflectlite.Value).Set", "internal/bytealg.abigen_runtime_cmpstring"], unfollowed := true, recurses := true, named := ["bookend/debt.errSettled", "errors.errorType"], apart := false, laid := [("errors.errorType", laid_errors_errorType), ("bookend/debt.errSettled", laid_bookend_debt_errSettled)], narrowed := true }
def SettleCompactsUptoSaid : Prop := settleCompactsUptoRow.holds Tryz.pinned (OpenSpec.upto settleCompactsSpec)

/-- 'bookendlaw22.SettleCosts', WHERE WHAT IT READS IS OF BULK AT MOST 1048576: true; the input reads as it did. -/
def settleCostsUptoRow : OpenClaim := { program := "ytoefnfbpoabinaagreatdoor", sum := "e88aedcde0c2e505315312c842827e58595530f584056cbc0d4c5347b2bd8981", func := "bookend/bookendlaw22.SettleCosts", spec := "settleCosts", inPlace := ["internal/reflectlite.ValueOf", "(internal/reflectlite.Value).Type", "(internal/reflectlite.Value).IsNil", "internal/reflectlite.TypeOf", "(internal/reflectlite.Value).Elem", "(internal/reflectlite.Value).Set", "internal/bytealg.abigen_runtime_cmpstring"], unfollowed := true, recurses := true, named := ["bookend/debt.errSettled", "errors.errorType"], apart := false, laid := [("errors.errorType", laid_errors_errorType), ("bookend/debt.errSettled", laid_bookend_debt_errSettled)], narrowed := true }
def SettleCostsUptoSaid : Prop := settleCostsUptoRow.holds Tryz.pinned (OpenSpec.upto settleCostsSpec)

end Rows
end Go.Proofs.YtoefnfbpoabinaaGreatDoor
