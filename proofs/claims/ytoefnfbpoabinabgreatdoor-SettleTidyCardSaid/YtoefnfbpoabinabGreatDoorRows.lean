/-
  NARROWER THAN 'FOR EVERY INPUT', by the rows' own cells (each row's printed sentence says how): SettleKeeps: laid · SettleTidy: laid.
  DERIVED. THE GIVEN ROWS OF THIS SEAT. 2 by the template 'for every input the law returns true; each argument reads behind the call as it read before'; 0 by the template 'total and deterministic' (their statements: YtoefnfbpoabinabGreatDoorTotals.lean).
  GIVEN WITH THE SEED: the statements are not yours to turn. If you find one false, say at which input.
  Laid BY PROGRAM, IN A SANDBOX (cutbox-rows.mjs): the forced cells as the released guide's own fill.sh prints them over the translation 6d65084c44f0a389… (all of the seat's roots in one cut). By AI agents, Wed Nov 11 2026. No macro, syntax, notation, axiom, sorry.
-/
import Derived.Test.YtoefnfbpoabinabGreatDoorChecked
import GoSem.Claim
import GoSem.ClaimJoined
import GoSem.ClaimMapViews
import Derived.JoinedTies
import Derived.KernelRfl
namespace Go.Proofs.YtoefnfbpoabinabGreatDoor
/- THE CELL 'sum', in the pinned program and in every row, IS THE sha256 OF THE DUMP (.gsa) THAT YtoefnfbpoabinabGreatDoorProg.lean LOADS. Nothing in Lean hashes anything: it is a label: what it is worth is what the hold of that sum in a sandbox is worth. -/
noncomputable def Tryz.pinned : Pinned := { name := "ytoefnfbpoabinabgreatdoor", sum := "6d65084c44f0a3891747f8d86ac192293d107e35b6590cf22222a544c2dd1381", checked := Tryz.checked }
namespace Rows
def none {H : Type} : Left H := { results := [], args := [] }

/- WHAT THE LISTED PACKAGE-LEVEL VARIABLES READ AS WHEN THE CALL BEGINS. Each datum BY PROGRAM (the guide's laid-datum.mjs) off the statement by which the dump's own 'gosem.cut.vars' lays the variable. In a bare row this is a premise. The card (YtoefnfbpoabinabGreatDoorCards.lean) ties it to the program's text. -/
def laid_errors_errorType {H : Type} : DataW H := .iface "internal/reflectlite.rtype" (.agg [.ptr (.lit (.string [101, 114, 114, 111, 114]))])
def laid_bookend_debt_errSettled {H : Type} : DataW H := .iface "*errors.errorString" (.ptr (.agg [.lit (.string [115, 101, 116, 116, 108, 101, 100])]))

/-- 'bookendlaw22.SettleKeeps': WHATEVER THE INPUT: true; the input reads as it did. -/
def settleKeepsSpec : ChangeSpec := { name := "settleKeeps", fn := fun _ => fun
  | [d] => { results := [.lit (.bool true)], args := [d] }
  | _ => none }
def settleKeepsRow : OpenClaim := { program := "ytoefnfbpoabinabgreatdoor", sum := "6d65084c44f0a3891747f8d86ac192293d107e35b6590cf22222a544c2dd1381", func := "bookend/bookendlaw22.SettleKeeps", spec := "settleKeeps", inPlace := ["internal/reflectlite.ValueOf", "(internal/reflectlite.Value).Type", "(internal/reflectlite.Value).IsNil", "internal/reflectlite.TypeOf", "(internal/reflectlite.Value).Elem", "(internal/reflectlite.Value).Set", "internal/bytealg.abigen_runtime_cmpstring"], unfollowed := true, recurses := true, named := ["bookend/debt.errSettled", "errors.errorType"], apart := false, laid := [("errors.errorType", laid_errors_errorType), ("bookend/debt.errSettled", laid_bookend_debt_errSettled)] }
def SettleKeepsSaid : Prop := settleKeepsRow.holds Tryz.pinned (OpenSpec.ofChange settleKeepsSpec)

/-- ITS FALSE NEIGHBOUR: 'it returns false'. Refute it at one input. -/
def settleKeepsWrong : ChangeSpec := { name := "settleKeeps", fn := fun _ => fun
  | [d] => { results := [.lit (.bool false)], args := [d] }
  | _ => none }
def SettleKeepsWrongFalsely : Prop := settleKeepsRow.holds Tryz.pinned (OpenSpec.ofChange settleKeepsWrong)

/-- 'bookendlaw22.SettleTidy': WHATEVER THE INPUT: true; the input reads as it did. -/
def settleTidySpec : ChangeSpec := { name := "settleTidy", fn := fun _ => fun
  | [d] => { results := [.lit (.bool true)], args := [d] }
  | _ => none }
def settleTidyRow : OpenClaim := { program := "ytoefnfbpoabinabgreatdoor", sum := "6d65084c44f0a3891747f8d86ac192293d107e35b6590cf22222a544c2dd1381", func := "bookend/bookendlaw22.SettleTidy", spec := "settleTidy", inPlace := ["internal/reflectlite.ValueOf", "(internal/reflectlite.Value).Type", "(internal/reflectlite.Value).IsNil", "internal/reflectlite.TypeOf", "(internal/reflectlite.Value).Elem", "(internal/reflectlite.Value).Set", "internal/bytealg.abigen_runtime_cmpstring"], unfollowed := true, recurses := true, named := ["bookend/debt.errSettled", "errors.errorType"], apart := false, laid := [("errors.errorType", laid_errors_errorType), ("bookend/debt.errSettled", laid_bookend_debt_errSettled)] }
def SettleTidySaid : Prop := settleTidyRow.holds Tryz.pinned (OpenSpec.ofChange settleTidySpec)

/-- ITS FALSE NEIGHBOUR: 'it returns false'. Refute it at one input. -/
def settleTidyWrong : ChangeSpec := { name := "settleTidy", fn := fun _ => fun
  | [d] => { results := [.lit (.bool false)], args := [d] }
  | _ => none }
def SettleTidyWrongFalsely : Prop := settleTidyRow.holds Tryz.pinned (OpenSpec.ofChange settleTidyWrong)

/- THE SECOND FORM. 'bulk': how many values and letters a reading holds, each counted each time it is reached (what is shared counts as often as it is met; a slice's spare places count too). A statement '..UptoSaid' is the law's where the arguments, and the package variables that the reading takes, are together of bulk at most 1048576: NARROWER than '..Said'. Prove '..Said' where nothing that the law and all that it calls make is longer than what came in: it says more and counts as full. Else prove '..UptoSaid'. A law counts once. -/
mutual
def uptoBulk {H : Type} : DataW H → Nat
  | .lit (.string bytes) => bytes.length + 1
  | .lit _ => 1
  | .nil => 1
  | .ptr d => uptoBulk d + 1
  | .slice elems spare => uptoBulkAll elems + uptoBulkAll spare + 1
  | .agg parts => uptoBulkAll parts + 1
  | .iface _ d => uptoBulk d + 1
  | .map entries => uptoBulkEntries entries + 1
  | .held _ => 1
def uptoBulkAll {H : Type} : List (DataW H) → Nat
  | [] => 0
  | d :: r => uptoBulk d + uptoBulkAll r
def uptoBulkEntries {H : Type} : List (Lit × DataW H) → Nat
  | [] => 0
  | x :: r => uptoBulkEntry x + uptoBulkEntries r
def uptoBulkEntry {H : Type} : Lit × DataW H → Nat
  | (.string bytes, d) => bytes.length + uptoBulk d + 1
  | (_, d) => uptoBulk d + 1
 end
def uptoSmall : (H : Type) → List (DataW H) → Bool := fun _ ds => decide (uptoBulkAll ds ≤ 1048576)
def OpenSpec.upto (s : _root_.Go.ChangeSpec) : _root_.Go.OpenSpec := { _root_.Go.OpenSpec.ofChange s with cond := some uptoSmall }

/-- 'bookendlaw22.SettleKeeps', WHERE WHAT IT READS IS OF BULK AT MOST 1048576: true; the input reads as it did. -/
def settleKeepsUptoRow : OpenClaim := { program := "ytoefnfbpoabinabgreatdoor", sum := "6d65084c44f0a3891747f8d86ac192293d107e35b6590cf22222a544c2dd1381", func := "bookend/bookendlaw22.SettleKeeps", spec := "settleKeeps", inPlace := ["internal/reflectlite.ValueOf", "(internal/reflectlite.Value).Type", "(internal/reflectlite.Value).IsNil", "internal/reflectlite.TypeOf", "(internal/reflectlite.Value).Elem", "(internal/reflectlite.Value).Set", "internal/bytealg.abigen_runtime_cmpstring"], unfollowed := true, recurses := true, named := ["bookend/debt.errSettled", "errors.errorType"], apart := false, laid := [("errors.errorType", laid_errors_errorType), ("bookend/debt.errSettled", laid_bookend_debt_errSettled)], narrowed := true }
def SettleKeepsUptoSaid : Prop := settleKeepsUptoRow.holds Tryz.pinned (OpenSpec.upto settleKeepsSpec)

/-- 'bookendlaw22.SettleTidy', WHERE WHAT IT READS IS OF BULK AT MOST 1048576: true; the input reads as it did. -/
def settleTidyUptoRow : OpenClaim := { program := "ytoefnfbpoabinabgreatdoor", sum := "6d65084c44f0a3891747f8d86ac192293d107e35b6590cf22222a544c2dd1381", func := "bookend/bookendlaw22.SettleTidy", spec := "settleTidy", inPlace := ["internal/reflectlite.ValueOf", "(internal/reflectlite.Value).Type", "(internal/reflectlite.Value).IsNil", "internal/reflectlite.TypeOf", "(internal/reflectlite.Value).Elem", "(internal/reflectlite.Value).Set", "internal/bytealg.abigen_runtime_cmpstring"], unfollowed := true, recurses := true, named := ["bookend/debt.errSettled", "errors.errorType"], apart := false, laid := [("errors.errorType", laid_errors_errorType), ("bookend/debt.errSettled", laid_bookend_debt_errSettled)], narrowed := true }
def SettleTidyUptoSaid : Prop := settleTidyUptoRow.holds Tryz.pinned (OpenSpec.upto settleTidySpec)

end Rows
end Go.Proofs.YtoefnfbpoabinabGreatDoor
