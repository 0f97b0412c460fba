/-
  NARROWER THAN 'FOR EVERY INPUT', by the rows' own cells (each row's printed sentence says how): SettleDrains: laid · SettleRests: laid.
  DERIVED. THE GIVEN ROWS OF THIS SEAT. 2 by the template 'for every input the law returns true; each argument reads behind the call as it read before'; 0 by the template 'total and deterministic' (their statements: YtfceigpbgndbgaaGreatDoorTotals.lean).
  GIVEN WITH THE SEED: the statements are not yours to turn. If you find one false, say at which input.
  Laid BY PROGRAM, IN A SANDBOX (cutbox-rows.mjs): the forced cells as the released guide's own fill.sh prints them over the translation 035986c52e1a8b4d… (all of the seat's roots in one cut). By AI agents, Wed Nov 11 2026. No macro, syntax, notation, axiom, sorry.
-/
import Derived.Test.YtfceigpbgndbgaaGreatDoorChecked
import GoSem.Claim
import GoSem.ClaimJoined
import GoSem.ClaimMapViews
import Derived.JoinedTies
import Derived.KernelRfl
namespace Go.Proofs.YtfceigpbgndbgaaGreatDoor
/- THE CELL 'sum', in the pinned program and in every row, IS THE sha256 OF THE DUMP (.gsa) THAT YtfceigpbgndbgaaGreatDoorProg.lean LOADS. Nothing in Lean hashes anything: it is a label: what it is worth is what the hold of that sum in a sandbox is worth. -/
noncomputable def Tryz.pinned : Pinned := { name := "ytfceigpbgndbgaagreatdoor", sum := "035986c52e1a8b4dcbbe6014af235176ba6bbae64a70e6f4f8c891c731ae2218", checked := Tryz.checked }
namespace Rows
def none {H : Type} : Left H := { results := [], args := [] }

/- WHAT THE LISTED PACKAGE-LEVEL VARIABLES READ AS WHEN THE CALL BEGINS. Each datum BY PROGRAM (the guide's laid-datum.mjs) off the statement by which the dump's own 'gosem.cut.vars' lays the variable. In a bare row this is a premise. The card (YtfceigpbgndbgaaGreatDoorCards.lean) ties it to the program's text. -/
def laid_errors_errorType {H : Type} : DataW H := .iface "internal/reflectlite.rtype" (.agg [.ptr (.lit (.string [101, 114, 114, 111, 114]))])
def laid_bookend_debt_errSettled {H : Type} : DataW H := .iface "*errors.errorString" (.ptr (.agg [.lit (.string [115, 101, 116, 116, 108, 101, 100])]))

/-- 'bookendlaw22.SettleDrains': WHATEVER THE INPUT: true; the input reads as it did. -/
def settleDrainsSpec : ChangeSpec := { name := "settleDrains", fn := fun _ => fun
  | [d] => { results := [.lit (.bool true)], args := [d] }
  | _ => none }
def settleDrainsRow : OpenClaim := { program := "ytfceigpbgndbgaagreatdoor", sum := "035986c52e1a8b4dcbbe6014af235176ba6bbae64a70e6f4f8c891c731ae2218", func := "bookend/bookendlaw22.SettleDrains", spec := "settleDrains", inPlace := ["internal/reflectlite.ValueOf", "(internal/reflectlite.Value).Type", "(internal/reflectlite.Value).IsNil", "internal/reflectlite.TypeOf", "(internal/reflectlite.Value).Elem", "(internal/reflectlite.Value).Set", "internal/bytealg.abigen_runtime_cmpstring"], unfollowed := true, recurses := true, named := ["bookend/debt.errSettled", "errors.errorType"], apart := false, laid := [("errors.errorType", laid_errors_errorType), ("bookend/debt.errSettled", laid_bookend_debt_errSettled)] }
def SettleDrainsSaid : Prop := settleDrainsRow.holds Tryz.pinned (OpenSpec.ofChange settleDrainsSpec)

/-- ITS FALSE NEIGHBOUR: 'it returns false'. Refute it at one input. -/
def settleDrainsWrong : ChangeSpec := { name := "settleDrains", fn := fun _ => fun
  | [d] => { results := [.lit (.bool false)], args := [d] }
  | _ => none }
def SettleDrainsWrongFalsely : Prop := settleDrainsRow.holds Tryz.pinned (OpenSpec.ofChange settleDrainsWrong)

/-- 'bookendlaw22.SettleRests': WHATEVER THE INPUT: true; the input reads as it did. -/
def settleRestsSpec : ChangeSpec := { name := "settleRests", fn := fun _ => fun
  | [d] => { results := [.lit (.bool true)], args := [d] }
  | _ => none }
def settleRestsRow : OpenClaim := { program := "ytfceigpbgndbgaagreatdoor", sum := "035986c52e1a8b4dcbbe6014af235176ba6bbae64a70e6f4f8c891c731ae2218", func := "bookend/bookendlaw22.SettleRests", spec := "settleRests", inPlace := ["internal/reflectlite.ValueOf", "(internal/reflectlite.Value).Type", "(internal/reflectlite.Value).IsNil", "internal/reflectlite.TypeOf", "(internal/reflectlite.Value).Elem", "(internal/reflectlite.Value).Set", "internal/bytealg.abigen_runtime_cmpstring"], unfollowed := true, recurses := true, named := ["bookend/debt.errSettled", "errors.errorType"], apart := false, laid := [("errors.errorType", laid_errors_errorType), ("bookend/debt.errSettled", laid_bookend_debt_errSettled)] }
def SettleRestsSaid : Prop := settleRestsRow.holds Tryz.pinned (OpenSpec.ofChange settleRestsSpec)

/-- ITS FALSE NEIGHBOUR: 'it returns false'. Refute it at one input. -/
def settleRestsWrong : ChangeSpec := { name := "settleRests", fn := fun _ => fun
  | [d] => { results := [.lit (.bool false)], args := [d] }
  | _ => none }
def SettleRestsWrongFalsely : Prop := settleRestsRow.holds Tryz.pinned (OpenSpec.ofChange settleRestsWrong)

/- THE SECOND FORM. 'bulk': how many values and letters a reading holds, each counted each time it is reached (what is shared counts as often as it is met; a slice's spare places count too). A statement '..UptoSaid' is the law's where the arguments, and the package variables that the reading takes, are together of bulk at most 1048576: NARROWER than '..Said'. Prove '..Said' where nothing that the law and all that it calls make is longer than what came in: it says more and counts as full. Else prove '..UptoSaid'. A law counts once. -/
mutual
def uptoBulk {H : Type} : DataW H → Nat
  | .lit (.string bytes) => bytes.length + 1
  | .lit _ => 1
  | .nil => 1
  | .ptr d => uptoBulk d + 1
  | .slice elems spare => uptoBulkAll elems + uptoBulkAll spare + 1
  | .agg parts => uptoBulkAll parts + 1
  | .iface _ d => uptoBulk d + 1
  | .map entries => uptoBulkEntries entries + 1
  | .held _ => 1
def uptoBulkAll {H : Type} : List (DataW H) → Nat
  | [] => 0
  | d :: r => uptoBulk d + uptoBulkAll r
def uptoBulkEntries {H : Type} : List (Lit × DataW H) → Nat
  | [] => 0
  | x :: r => uptoBulkEntry x + uptoBulkEntries r
def uptoBulkEntry {H : Type} : Lit × DataW H → Nat
  | (.string bytes, d) => bytes.length + uptoBulk d + 1
  | (_, d) => uptoBulk d + 1
 end
def uptoSmall : (H : Type) → List (DataW H) → Bool := fun _ ds => decide (uptoBulkAll ds ≤ 1048576)
def OpenSpec.upto (s : _root_.Go.ChangeSpec) : _root_.Go.OpenSpec := { _root_.Go.OpenSpec.ofChange s with cond := some uptoSmall }

/-- 'bookendlaw22.SettleDrains', WHERE WHAT IT READS IS OF BULK AT MOST 1048576: true; the input reads as it did. -/
def settleDrainsUptoRow : OpenClaim := { program := "ytfceigpbgndbgaagreatdoor", sum := "035986c52e1a8b4dcbbe6014af235176ba6bbae64a70e6f4f8c891c731ae2218", func := "bookend/bookendlaw22.SettleDrains", spec := "settleDrains", inPlace := ["internal/reflectlite.ValueOf", "(internal/reflectlite.Value).Type", "(internal/reflectlite.Value).IsNil", "internal/reflectlite.TypeOf", "(internal/reflectlite.Value).Elem", "(internal/reflectlite.Value).Set", "internal/bytealg.abigen_runtime_cmpstring"], unfollowed := true, recurses := true, named := ["bookend/debt.errSettled", "errors.errorType"], apart := false, laid := [("errors.errorType", laid_errors_errorType), ("bookend/debt.errSettled", laid_bookend_debt_errSettled)], narrowed := true }
def SettleDrainsUptoSaid : Prop := settleDrainsUptoRow.holds Tryz.pinned (OpenSpec.upto settleDrainsSpec)

/-- 'bookendlaw22.SettleRests', WHERE WHAT IT READS IS OF BULK AT MOST 1048576: true; the input reads as it did. -/
def settleRestsUptoRow : OpenClaim := { program := "ytfceigpbgndbgaagreatdoor", sum := "035986c52e1a8b4dcbbe6014af235176ba6bbae64a70e6f4f8c891c731ae2218", func := "bookend/bookendlaw22.SettleRests", spec := "settleRests", inPlace := ["internal/reflectlite.ValueOf", "(internal/reflectlite.Value).Type", "(internal/reflectlite.Value).IsNil", "internal/reflectlite.TypeOf", "(internal/reflectlite.Value).Elem", "(internal/reflectlite.Value).Set", "internal/bytealg.abigen_runtime_cmpstring"], unfollowed := true, recurses := true, named := ["bookend/debt.errSettled", "errors.errorType"], apart := false, laid := [("errors.errorType", laid_errors_errorType), ("bookend/debt.errSettled", laid_bookend_debt_errSettled)], narrowed := true }
def SettleRestsUptoSaid : Prop := settleRestsUptoRow.holds Tryz.pinned (OpenSpec.upto settleRestsSpec)

end Rows
end Go.Proofs.YtfceigpbgndbgaaGreatDoor
