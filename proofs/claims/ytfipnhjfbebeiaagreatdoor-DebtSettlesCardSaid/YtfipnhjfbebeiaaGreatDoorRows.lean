/-
  NARROWER THAN 'FOR EVERY INPUT', by the rows' own cells (each row's printed sentence says how): DebtRuns: laid · DebtSettles: laid.
  DERIVED. THE GIVEN ROWS OF THIS SEAT. 2 by the template 'for every input the law returns true; each argument reads behind the call as it read before'; 0 by the template 'total and deterministic' (their statements: YtfipnhjfbebeiaaGreatDoorTotals.lean).
  GIVEN WITH THE SEED: the statements are not yours to turn. If you find one false, say at which input.
  Laid BY PROGRAM, IN A SANDBOX (cutbox-rows.mjs): the forced cells as the released guide's own fill.sh prints them over the translation fe673c46ed4a5eac… (all of the seat's roots in one cut). By AI agents, Wed Nov 11 2026. No macro, syntax, notation, axiom, sorry.
-/
import Derived.Test.YtfipnhjfbebeiaaGreatDoorChecked
import GoSem.Claim
import GoSem.ClaimJoined
import GoSem.ClaimMapViews
import Derived.JoinedTies
import Derived.KernelRfl
namespace Go.Proofs.YtfipnhjfbebeiaaGreatDoor
/- THE CELL 'sum', in the pinned program and in every row, IS THE sha256 OF THE DUMP (.gsa) THAT YtfipnhjfbebeiaaGreatDoorProg.lean LOADS. Nothing in Lean hashes anything: it is a label: what it is worth is what the hold of that sum in a sandbox is worth. -/
noncomputable def Tryz.pinned : Pinned := { name := "ytfipnhjfbebeiaagreatdoor", sum := "fe673c46ed4a5eac6424eaafeb8b4a84dcec2b4dbfc2156a8c1cb2607c44e5b1", checked := Tryz.checked }
namespace Rows
def none {H : Type} : Left H := { results := [], args := [] }

/- WHAT THE LISTED PACKAGE-LEVEL VARIABLES READ AS WHEN THE CALL BEGINS. Each datum BY PROGRAM (the guide's laid-datum.mjs) off the statement by which the dump's own 'gosem.cut.vars' lays the variable. In a bare row this is a premise. The card (YtfipnhjfbebeiaaGreatDoorCards.lean) ties it to the program's text. -/
def laid_errors_errorType {H : Type} : DataW H := .iface "internal/reflectlite.rtype" (.agg [.ptr (.lit (.string [101, 114, 114, 111, 114]))])
def laid_bookend_debt_errSettled {H : Type} : DataW H := .iface "*errors.errorString" (.ptr (.agg [.lit (.string [115, 101, 116, 116, 108, 101, 100])]))

/-- 'bookendlaw18.DebtRuns': WHATEVER THE INPUT: true; the input reads as it did. -/
def debtRunsSpec : ChangeSpec := { name := "debtRuns", fn := fun _ => fun
  | [d1, d2] => { results := [.lit (.bool true)], args := [d1, d2] }
  | _ => none }
def debtRunsRow : OpenClaim := { program := "ytfipnhjfbebeiaagreatdoor", sum := "fe673c46ed4a5eac6424eaafeb8b4a84dcec2b4dbfc2156a8c1cb2607c44e5b1", func := "bookend/bookendlaw18.DebtRuns", spec := "debtRuns", inPlace := ["internal/reflectlite.ValueOf", "(internal/reflectlite.Value).Type", "(internal/reflectlite.Value).IsNil", "internal/reflectlite.TypeOf", "(internal/reflectlite.Value).Elem", "(internal/reflectlite.Value).Set"], unfollowed := true, recurses := true, named := ["bookend/debt.errSettled", "errors.errorType"], apart := false, laid := [("errors.errorType", laid_errors_errorType), ("bookend/debt.errSettled", laid_bookend_debt_errSettled)] }
def DebtRunsSaid : Prop := debtRunsRow.holds Tryz.pinned (OpenSpec.ofChange debtRunsSpec)

/-- ITS FALSE NEIGHBOUR: 'it returns false'. Refute it at one input. -/
def debtRunsWrong : ChangeSpec := { name := "debtRuns", fn := fun _ => fun
  | [d1, d2] => { results := [.lit (.bool false)], args := [d1, d2] }
  | _ => none }
def DebtRunsWrongFalsely : Prop := debtRunsRow.holds Tryz.pinned (OpenSpec.ofChange debtRunsWrong)

/-- 'bookendlaw18.DebtSettles': WHATEVER THE INPUT: true; the input reads as it did. -/
def debtSettlesSpec : ChangeSpec := { name := "debtSettles", fn := fun _ => fun
  | [d] => { results := [.lit (.bool true)], args := [d] }
  | _ => none }
def debtSettlesRow : OpenClaim := { program := "ytfipnhjfbebeiaagreatdoor", sum := "fe673c46ed4a5eac6424eaafeb8b4a84dcec2b4dbfc2156a8c1cb2607c44e5b1", func := "bookend/bookendlaw18.DebtSettles", spec := "debtSettles", inPlace := ["internal/reflectlite.ValueOf", "(internal/reflectlite.Value).Type", "(internal/reflectlite.Value).IsNil", "internal/reflectlite.TypeOf", "(internal/reflectlite.Value).Elem", "(internal/reflectlite.Value).Set"], unfollowed := true, recurses := true, named := ["bookend/debt.errSettled", "errors.errorType"], apart := false, laid := [("errors.errorType", laid_errors_errorType), ("bookend/debt.errSettled", laid_bookend_debt_errSettled)] }
def DebtSettlesSaid : Prop := debtSettlesRow.holds Tryz.pinned (OpenSpec.ofChange debtSettlesSpec)

/-- ITS FALSE NEIGHBOUR: 'it returns false'. Refute it at one input. -/
def debtSettlesWrong : ChangeSpec := { name := "debtSettles", fn := fun _ => fun
  | [d] => { results := [.lit (.bool false)], args := [d] }
  | _ => none }
def DebtSettlesWrongFalsely : Prop := debtSettlesRow.holds Tryz.pinned (OpenSpec.ofChange debtSettlesWrong)

/- THE SECOND FORM. 'bulk': how many values and letters a reading holds, each counted each time it is reached (what is shared counts as often as it is met; a slice's spare places count too). A statement '..UptoSaid' is the law's where the arguments, and the package variables that the reading takes, are together of bulk at most 1048576: NARROWER than '..Said'. Prove '..Said' where nothing that the law and all that it calls make is longer than what came in: it says more and counts as full. Else prove '..UptoSaid'. A law counts once. -/
mutual
def uptoBulk {H : Type} : DataW H → Nat
  | .lit (.string bytes) => bytes.length + 1
  | .lit _ => 1
  | .nil => 1
  | .ptr d => uptoBulk d + 1
  | .slice elems spare => uptoBulkAll elems + uptoBulkAll spare + 1
  | .agg parts => uptoBulkAll parts + 1
  | .iface _ d => uptoBulk d + 1
  | .map entries => uptoBulkEntries entries + 1
  | .held _ => 1
def uptoBulkAll {H : Type} : List (DataW H) → Nat
  | [] => 0
  | d :: r => uptoBulk d + uptoBulkAll r
def uptoBulkEntries {H : Type} : List (Lit × DataW H) → Nat
  | [] => 0
  | x :: r => uptoBulkEntry x + uptoBulkEntries r
def uptoBulkEntry {H : Type} : Lit × DataW H → Nat
  | (.string bytes, d) => bytes.length + uptoBulk d + 1
  | (_, d) => uptoBulk d + 1
 end
def uptoSmall : (H : Type) → List (DataW H) → Bool := fun _ ds => decide (uptoBulkAll ds ≤ 1048576)
def OpenSpec.upto (s : _root_.Go.ChangeSpec) : _root_.Go.OpenSpec := { _root_.Go.OpenSpec.ofChange s with cond := some uptoSmall }

/-- 'bookendlaw18.DebtRuns', WHERE WHAT IT READS IS OF BULK AT MOST 1048576: true; the input reads as it did. -/
def debtRunsUptoRow : OpenClaim := { program := "ytfipnhjfbebeiaagreatdoor", sum := "fe673c46ed4a5eac6424eaafeb8b4a84dcec2b4dbfc2156a8c1cb2607c44e5b1", func := "bookend/bookendlaw18.DebtRuns", spec := "debtRuns", inPlace := ["internal/reflectlite.ValueOf", "(internal/reflectlite.Value).Type", "(internal/reflectlite.Value).IsNil", "internal/reflectlite.TypeOf", "(internal/reflectlite.Value).Elem", "(internal/reflectlite.Value).Set"], unfollowed := true, recurses := true, named := ["bookend/debt.errSettled", "errors.errorType"], apart := false, laid := [("errors.errorType", laid_errors_errorType), ("bookend/debt.errSettled", laid_bookend_debt_errSettled)], narrowed := true }
def DebtRunsUptoSaid : Prop := debtRunsUptoRow.holds Tryz.pinned (OpenSpec.upto debtRunsSpec)

/-- 'bookendlaw18.DebtSettles', WHERE WHAT IT READS IS OF BULK AT MOST 1048576: true; the input reads as it did. -/
def debtSettlesUptoRow : OpenClaim := { program := "ytfipnhjfbebeiaagreatdoor", sum := "fe673c46ed4a5eac6424eaafeb8b4a84dcec2b4dbfc2156a8c1cb2607c44e5b1", func := "bookend/bookendlaw18.DebtSettles", spec := "debtSettles", inPlace := ["internal/reflectlite.ValueOf", "(internal/reflectlite.Value).Type", "(internal/reflectlite.Value).IsNil", "internal/reflectlite.TypeOf", "(internal/reflectlite.Value).Elem", "(internal/reflectlite.Value).Set"], unfollowed := true, recurses := true, named := ["bookend/debt.errSettled", "errors.errorType"], apart := false, laid := [("errors.errorType", laid_errors_errorType), ("bookend/debt.errSettled", laid_bookend_debt_errSettled)], narrowed := true }
def DebtSettlesUptoSaid : Prop := debtSettlesUptoRow.holds Tryz.pinned (OpenSpec.upto debtSettlesSpec)

end Rows
end Go.Proofs.YtfipnhjfbebeiaaGreatDoor
