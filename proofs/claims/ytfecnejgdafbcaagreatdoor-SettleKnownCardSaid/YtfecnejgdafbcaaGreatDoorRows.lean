/-
  NARROWER THAN 'FOR EVERY INPUT', by the rows' own cells (each row's printed sentence says how): DebtKnown: laid · SchedKnown: laid · SettleKnown: laid · PmapKnown: calm, laid.
  DERIVED. THE GIVEN ROWS OF THIS SEAT. 4 by the template 'for every input the law returns true; each argument reads behind the call as it read before'; 0 by the template 'total and deterministic' (their statements: YtfecnejgdafbcaaGreatDoorTotals.lean).
  GIVEN WITH THE SEED: the statements are not yours to turn. If you find one false, say at which input.
  Laid BY PROGRAM, IN A SANDBOX (cutbox-rows.mjs): the forced cells as the released guide's own fill.sh prints them over the translation de93d1b08202acc7… (all of the seat's roots in one cut). By AI agents, Wed Nov 11 2026. No macro, syntax, notation, axiom, sorry.
-/
import Derived.Test.YtfecnejgdafbcaaGreatDoorChecked
import GoSem.Claim
import GoSem.ClaimJoined
import GoSem.ClaimMapViews
import Derived.JoinedTies
import Derived.KernelRfl
namespace Go.Proofs.YtfecnejgdafbcaaGreatDoor
/- THE CELL 'sum', in the pinned program and in every row, IS THE sha256 OF THE DUMP (.gsa) THAT YtfecnejgdafbcaaGreatDoorProg.lean LOADS. Nothing in Lean hashes anything: it is a label: what it is worth is what the hold of that sum in a sandbox is worth. -/
noncomputable def Tryz.pinned : Pinned := { name := "ytfecnejgdafbcaagreatdoor", sum := "de93d1b08202acc7a3d96e2200e3d8aca676f6a3a6508c799e6b95beeef1249f", checked := Tryz.checked }
namespace Rows
def none {H : Type} : Left H := { results := [], args := [] }

/- WHAT THE LISTED PACKAGE-LEVEL VARIABLES READ AS WHEN THE CALL BEGINS. Each datum BY PROGRAM (the guide's laid-datum.mjs) off the statement by which the dump's own 'gosem.cut.vars' lays the variable. In a bare row this is a premise. The card (YtfecnejgdafbcaaGreatDoorCards.lean) ties it to the program's text. -/
def laid_errors_errorType {H : Type} : DataW H := .iface "internal/reflectlite.rtype" (.agg [.ptr (.lit (.string [101, 114, 114, 111, 114]))])
def laid_bookend_debt_errSettled {H : Type} : DataW H := .iface "*errors.errorString" (.ptr (.agg [.lit (.string [115, 101, 116, 116, 108, 101, 100])]))
def laid_bookend_ops_table {H : Type} : DataW H := .agg [.agg [.lit (.string []), .lit (.string [])], .agg [.lit (.string [112, 117, 116]), .lit (.string [107, 118])], .agg [.lit (.string [100, 101, 108]), .lit (.string [107])], .agg [.lit (.string [98, 97, 116, 99, 104]), .lit (.string [119])], .agg [.lit (.string [103, 101, 116]), .lit (.string [104, 107])], .agg [.lit (.string [102, 108, 111, 111, 114]), .lit (.string [104, 107])], .agg [.lit (.string [99, 101, 105, 108, 105, 110, 103]), .lit (.string [104, 107])], .agg [.lit (.string [99, 111, 117, 110, 116]), .lit (.string [104, 114])], .agg [.lit (.string [112, 105, 110]), .lit (.string [])], .agg [.lit (.string [117, 110, 112, 105, 110]), .lit (.string [104])], .agg [.lit (.string [111, 112, 101, 110]), .lit (.string [104, 114])], .agg [.lit (.string [110, 101, 120, 116]), .lit (.string [104])], .agg [.lit (.string [112, 114, 101, 118]), .lit (.string [104])], .agg [.lit (.string [115, 104, 117, 116]), .lit (.string [104])], .agg [.lit (.string [100, 105, 102, 102]), .lit (.string [104, 111])], .agg [.lit (.string [119, 111, 114, 107]), .lit (.string [])], .agg [.lit (.string [99, 111, 109, 112, 97, 99, 116]), .lit (.string [])], .agg [.lit (.string [115, 116, 97, 116, 115]), .lit (.string [])]]
def laid_bookend_store_errBusy {H : Type} : DataW H := .iface "*errors.errorString" (.ptr (.agg [.lit (.string [98, 117, 115, 121])]))

/-- 'bookendlaw18.DebtKnown': WHATEVER THE INPUT: true; the input reads as it did. -/
def debtKnownSpec : ChangeSpec := { name := "debtKnown", fn := fun _ => fun
  | [] => { results := [.lit (.bool true)], args := [] }
  | _ => none }
def debtKnownRow : OpenClaim := { program := "ytfecnejgdafbcaagreatdoor", sum := "de93d1b08202acc7a3d96e2200e3d8aca676f6a3a6508c799e6b95beeef1249f", func := "bookend/bookendlaw18.DebtKnown", spec := "debtKnown", inPlace := ["internal/reflectlite.ValueOf", "(internal/reflectlite.Value).Type", "(internal/reflectlite.Value).IsNil", "internal/reflectlite.TypeOf", "(internal/reflectlite.Value).Elem", "(internal/reflectlite.Value).Set"], unfollowed := true, recurses := true, named := ["bookend/debt.errSettled", "errors.errorType"], leaving := true, apart := false, laid := [("errors.errorType", laid_errors_errorType), ("bookend/debt.errSettled", laid_bookend_debt_errSettled)] }
def DebtKnownSaid : Prop := debtKnownRow.holds Tryz.pinned (OpenSpec.ofChange debtKnownSpec)

/-- ITS FALSE NEIGHBOUR: 'it returns false'. Refute it at one input. -/
def debtKnownWrong : ChangeSpec := { name := "debtKnown", fn := fun _ => fun
  | [] => { results := [.lit (.bool false)], args := [] }
  | _ => none }
def DebtKnownWrongFalsely : Prop := debtKnownRow.holds Tryz.pinned (OpenSpec.ofChange debtKnownWrong)

/-- 'bookendlaw21.SchedKnown': WHATEVER THE INPUT: true; the input reads as it did. -/
def schedKnownSpec : ChangeSpec := { name := "schedKnown", fn := fun _ => fun
  | [] => { results := [.lit (.bool true)], args := [] }
  | _ => none }
def schedKnownRow : OpenClaim := { program := "ytfecnejgdafbcaagreatdoor", sum := "de93d1b08202acc7a3d96e2200e3d8aca676f6a3a6508c799e6b95beeef1249f", func := "bookend/bookendlaw21.SchedKnown", spec := "schedKnown", inPlace := ["internal/reflectlite.TypeOf", "internal/reflectlite.ValueOf", "(internal/reflectlite.Value).Type", "(internal/reflectlite.Value).IsNil", "(internal/reflectlite.Value).Elem", "(internal/reflectlite.Value).Set"], unfollowed := true, recurses := true, named := ["errors.errorType"], leaving := true, apart := false, laid := [("errors.errorType", laid_errors_errorType)] }
def SchedKnownSaid : Prop := schedKnownRow.holds Tryz.pinned (OpenSpec.ofChange schedKnownSpec)

/-- ITS FALSE NEIGHBOUR: 'it returns false'. Refute it at one input. -/
def schedKnownWrong : ChangeSpec := { name := "schedKnown", fn := fun _ => fun
  | [] => { results := [.lit (.bool false)], args := [] }
  | _ => none }
def SchedKnownWrongFalsely : Prop := schedKnownRow.holds Tryz.pinned (OpenSpec.ofChange schedKnownWrong)

/-- 'bookendlaw22.SettleKnown': WHATEVER THE INPUT: true; the input reads as it did. -/
def settleKnownSpec : ChangeSpec := { name := "settleKnown", fn := fun _ => fun
  | [] => { results := [.lit (.bool true)], args := [] }
  | _ => none }
def settleKnownRow : OpenClaim := { program := "ytfecnejgdafbcaagreatdoor", sum := "de93d1b08202acc7a3d96e2200e3d8aca676f6a3a6508c799e6b95beeef1249f", func := "bookend/bookendlaw22.SettleKnown", spec := "settleKnown", inPlace := ["internal/reflectlite.ValueOf", "(internal/reflectlite.Value).Type", "(internal/reflectlite.Value).IsNil", "internal/reflectlite.TypeOf", "(internal/reflectlite.Value).Elem", "(internal/reflectlite.Value).Set", "internal/bytealg.abigen_runtime_cmpstring"], unfollowed := true, recurses := true, named := ["bookend/debt.errSettled", "errors.errorType"], leaving := true, apart := false, laid := [("errors.errorType", laid_errors_errorType), ("bookend/debt.errSettled", laid_bookend_debt_errSettled)] }
def SettleKnownSaid : Prop := settleKnownRow.holds Tryz.pinned (OpenSpec.ofChange settleKnownSpec)

/-- ITS FALSE NEIGHBOUR: 'it returns false'. Refute it at one input. -/
def settleKnownWrong : ChangeSpec := { name := "settleKnown", fn := fun _ => fun
  | [] => { results := [.lit (.bool false)], args := [] }
  | _ => none }
def SettleKnownWrongFalsely : Prop := settleKnownRow.holds Tryz.pinned (OpenSpec.ofChange settleKnownWrong)

/-- 'bookendlaw30.PmapKnown': WHATEVER THE INPUT: true; the input reads as it did. -/
def pmapKnownSpec : ChangeSpec := { name := "pmapKnown", fn := fun _ => fun
  | [] => { results := [.lit (.bool true)], args := [] }
  | _ => none }
def pmapKnownRow : OpenClaim := { program := "ytfecnejgdafbcaagreatdoor", sum := "de93d1b08202acc7a3d96e2200e3d8aca676f6a3a6508c799e6b95beeef1249f", func := "bookend/bookendlaw30.PmapKnown", spec := "pmapKnown", inPlace := ["internal/abi.NoEscape", "internal/reflectlite.ValueOf", "(internal/reflectlite.Value).Type", "(internal/reflectlite.Value).IsNil", "internal/reflectlite.TypeOf", "(internal/reflectlite.Value).Elem", "(internal/reflectlite.Value).Set", "internal/bytealg.abigen_runtime_cmpstring", "(*internal/sync.Mutex).Lock", "internal/race.Disable", "sync/atomic.CompareAndSwapInt32", "internal/race.Enable", "internal/race.Acquire", "(*internal/sync.Mutex).lockSlow", "internal/sync.runtime_canSpin", "internal/sync.runtime_doSpin", "internal/sync.throw", "internal/sync.runtime_nanotime", "internal/sync.runtime_SemacquireMutex", "sync/atomic.AddInt32", "(*internal/sync.Mutex).Unlock", "internal/race.ReleaseMerge", "(*internal/sync.Mutex).unlockSlow", "internal/sync.fatal", "internal/sync.runtime_Semrelease"], unfollowed := true, recurses := true, named := ["bookend/store.errBusy", "bookend/ops.table", "bookend/debt.errSettled", "errors.errorType"], leaving := true, apart := false, calm := true, outside := [.timePasses], laid := [("errors.errorType", laid_errors_errorType), ("bookend/ops.table", laid_bookend_ops_table), ("bookend/debt.errSettled", laid_bookend_debt_errSettled), ("bookend/store.errBusy", laid_bookend_store_errBusy)] }
def PmapKnownSaid : Prop := pmapKnownRow.holds Tryz.pinned (OpenSpec.ofChange pmapKnownSpec)

/-- ITS FALSE NEIGHBOUR: 'it returns false'. Refute it at one input. -/
def pmapKnownWrong : ChangeSpec := { name := "pmapKnown", fn := fun _ => fun
  | [] => { results := [.lit (.bool false)], args := [] }
  | _ => none }
def PmapKnownWrongFalsely : Prop := pmapKnownRow.holds Tryz.pinned (OpenSpec.ofChange pmapKnownWrong)

/- THE SECOND FORM. 'bulk': how many values and letters a reading holds, each counted each time it is reached (what is shared counts as often as it is met; a slice's spare places count too). A statement '..UptoSaid' is the law's where the arguments, and the package variables that the reading takes, are together of bulk at most 1048576: NARROWER than '..Said'. Prove '..Said' where nothing that the law and all that it calls make is longer than what came in: it says more and counts as full. Else prove '..UptoSaid'. A law counts once. -/
mutual
def uptoBulk {H : Type} : DataW H → Nat
  | .lit (.string bytes) => bytes.length + 1
  | .lit _ => 1
  | .nil => 1
  | .ptr d => uptoBulk d + 1
  | .slice elems spare => uptoBulkAll elems + uptoBulkAll spare + 1
  | .agg parts => uptoBulkAll parts + 1
  | .iface _ d => uptoBulk d + 1
  | .map entries => uptoBulkEntries entries + 1
  | .held _ => 1
def uptoBulkAll {H : Type} : List (DataW H) → Nat
  | [] => 0
  | d :: r => uptoBulk d + uptoBulkAll r
def uptoBulkEntries {H : Type} : List (Lit × DataW H) → Nat
  | [] => 0
  | x :: r => uptoBulkEntry x + uptoBulkEntries r
def uptoBulkEntry {H : Type} : Lit × DataW H → Nat
  | (.string bytes, d) => bytes.length + uptoBulk d + 1
  | (_, d) => uptoBulk d + 1
 end
def uptoSmall : (H : Type) → List (DataW H) → Bool := fun _ ds => decide (uptoBulkAll ds ≤ 1048576)
def OpenSpec.upto (s : _root_.Go.ChangeSpec) : _root_.Go.OpenSpec := { _root_.Go.OpenSpec.ofChange s with cond := some uptoSmall }

/-- 'bookendlaw18.DebtKnown', WHERE WHAT IT READS IS OF BULK AT MOST 1048576: true; the input reads as it did. -/
def debtKnownUptoRow : OpenClaim := { program := "ytfecnejgdafbcaagreatdoor", sum := "de93d1b08202acc7a3d96e2200e3d8aca676f6a3a6508c799e6b95beeef1249f", func := "bookend/bookendlaw18.DebtKnown", spec := "debtKnown", inPlace := ["internal/reflectlite.ValueOf", "(internal/reflectlite.Value).Type", "(internal/reflectlite.Value).IsNil", "internal/reflectlite.TypeOf", "(internal/reflectlite.Value).Elem", "(internal/reflectlite.Value).Set"], unfollowed := true, recurses := true, named := ["bookend/debt.errSettled", "errors.errorType"], leaving := true, apart := false, laid := [("errors.errorType", laid_errors_errorType), ("bookend/debt.errSettled", laid_bookend_debt_errSettled)], narrowed := true }
def DebtKnownUptoSaid : Prop := debtKnownUptoRow.holds Tryz.pinned (OpenSpec.upto debtKnownSpec)

/-- 'bookendlaw21.SchedKnown', WHERE WHAT IT READS IS OF BULK AT MOST 1048576: true; the input reads as it did. -/
def schedKnownUptoRow : OpenClaim := { program := "ytfecnejgdafbcaagreatdoor", sum := "de93d1b08202acc7a3d96e2200e3d8aca676f6a3a6508c799e6b95beeef1249f", func := "bookend/bookendlaw21.SchedKnown", spec := "schedKnown", inPlace := ["internal/reflectlite.TypeOf", "internal/reflectlite.ValueOf", "(internal/reflectlite.Value).Type", "(internal/reflectlite.Value).IsNil", "(internal/reflectlite.Value).Elem", "(internal/reflectlite.Value).Set"], unfollowed := true, recurses := true, named := ["errors.errorType"], leaving := true, apart := false, laid := [("errors.errorType", laid_errors_errorType)], narrowed := true }
def SchedKnownUptoSaid : Prop := schedKnownUptoRow.holds Tryz.pinned (OpenSpec.upto schedKnownSpec)

/-- 'bookendlaw22.SettleKnown', WHERE WHAT IT READS IS OF BULK AT MOST 1048576: true; the input reads as it did. -/
def settleKnownUptoRow : OpenClaim := { program := "ytfecnejgdafbcaagreatdoor", sum := "de93d1b08202acc7a3d96e2200e3d8aca676f6a3a6508c799e6b95beeef1249f", func := "bookend/bookendlaw22.SettleKnown", spec := "settleKnown", inPlace := ["internal/reflectlite.ValueOf", "(internal/reflectlite.Value).Type", "(internal/reflectlite.Value).IsNil", "internal/reflectlite.TypeOf", "(internal/reflectlite.Value).Elem", "(internal/reflectlite.Value).Set", "internal/bytealg.abigen_runtime_cmpstring"], unfollowed := true, recurses := true, named := ["bookend/debt.errSettled", "errors.errorType"], leaving := true, apart := false, laid := [("errors.errorType", laid_errors_errorType), ("bookend/debt.errSettled", laid_bookend_debt_errSettled)], narrowed := true }
def SettleKnownUptoSaid : Prop := settleKnownUptoRow.holds Tryz.pinned (OpenSpec.upto settleKnownSpec)

end Rows
end Go.Proofs.YtfecnejgdafbcaaGreatDoor
