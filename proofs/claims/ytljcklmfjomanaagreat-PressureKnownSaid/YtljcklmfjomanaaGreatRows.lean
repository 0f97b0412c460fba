/-
  No cell of these rows narrows 'for every input' (looked for: loops, veiled, ifaces, maps, wideKeys, modest, calm, conditions, laid).
  DERIVED. THE GIVEN ROWS OF THIS SEAT. 3 by the template 'for every input the law returns true; each argument reads behind the call as it read before'; 0 by the template 'total and deterministic' (their statements: YtljcklmfjomanaaGreatTotals.lean).
  GIVEN WITH THE SEED: the statements are not yours to turn. If you find one false, say at which input.
  Laid BY PROGRAM, IN A SANDBOX (cutbox-rows.mjs): the forced cells as the released guide's own fill.sh prints them over the translation 298c1bc12d241d7a… (all of the seat's roots in one cut). By AI agents, Wed Nov 11 2026. No macro, syntax, notation, axiom, sorry.
-/
import Derived.Test.YtljcklmfjomanaaGreatChecked
import GoSem.Claim
import GoSem.ClaimJoined
import GoSem.ClaimMapViews
import Derived.JoinedTies
import Derived.KernelRfl
namespace Go.Proofs.YtljcklmfjomanaaGreat
/- THE CELL 'sum', in the pinned program and in every row, IS THE sha256 OF THE DUMP (.gsa) THAT YtljcklmfjomanaaGreatProg.lean LOADS. Nothing in Lean hashes anything: it is a label: what it is worth is what the hold of that sum in a sandbox is worth. -/
noncomputable def Tryz.pinned : Pinned := { name := "ytljcklmfjomanaagreat", sum := "298c1bc12d241d7ab7770e138588c85562dabfddc7232d2d2f5e291a76676cc7", checked := Tryz.checked }
namespace Rows
def none {H : Type} : Left H := { results := [], args := [] }

/-- 'bookendlaw17.InstallKnown': WHATEVER THE INPUT: true; the input reads as it did. -/
def installKnownSpec : ChangeSpec := { name := "installKnown", fn := fun _ => fun
  | [] => { results := [.lit (.bool true)], args := [] }
  | _ => none }
def installKnownRow : OpenClaim := { program := "ytljcklmfjomanaagreat", sum := "298c1bc12d241d7ab7770e138588c85562dabfddc7232d2d2f5e291a76676cc7", func := "bookend/bookendlaw17.InstallKnown", spec := "installKnown", unfollowed := true, recurses := true, apart := false }
def InstallKnownSaid : Prop := installKnownRow.holds Tryz.pinned (OpenSpec.ofChange installKnownSpec)

/-- ITS FALSE NEIGHBOUR: 'it returns false'. Refute it at one input. -/
def installKnownWrong : ChangeSpec := { name := "installKnown", fn := fun _ => fun
  | [] => { results := [.lit (.bool false)], args := [] }
  | _ => none }
def InstallKnownWrongFalsely : Prop := installKnownRow.holds Tryz.pinned (OpenSpec.ofChange installKnownWrong)

/-- 'bookendlaw19.PressureKnown': WHATEVER THE INPUT: true; the input reads as it did. -/
def pressureKnownSpec : ChangeSpec := { name := "pressureKnown", fn := fun _ => fun
  | [] => { results := [.lit (.bool true)], args := [] }
  | _ => none }
def pressureKnownRow : OpenClaim := { program := "ytljcklmfjomanaagreat", sum := "298c1bc12d241d7ab7770e138588c85562dabfddc7232d2d2f5e291a76676cc7", func := "bookend/bookendlaw19.PressureKnown", spec := "pressureKnown", unfollowed := true, recurses := true, apart := false }
def PressureKnownSaid : Prop := pressureKnownRow.holds Tryz.pinned (OpenSpec.ofChange pressureKnownSpec)

/-- ITS FALSE NEIGHBOUR: 'it returns false'. Refute it at one input. -/
def pressureKnownWrong : ChangeSpec := { name := "pressureKnown", fn := fun _ => fun
  | [] => { results := [.lit (.bool false)], args := [] }
  | _ => none }
def PressureKnownWrongFalsely : Prop := pressureKnownRow.holds Tryz.pinned (OpenSpec.ofChange pressureKnownWrong)

/-- 'bookendlaw20.GrantsKnown': WHATEVER THE INPUT: true; the input reads as it did. -/
def grantsKnownSpec : ChangeSpec := { name := "grantsKnown", fn := fun _ => fun
  | [] => { results := [.lit (.bool true)], args := [] }
  | _ => none }
def grantsKnownRow : OpenClaim := { program := "ytljcklmfjomanaagreat", sum := "298c1bc12d241d7ab7770e138588c85562dabfddc7232d2d2f5e291a76676cc7", func := "bookend/bookendlaw20.GrantsKnown", spec := "grantsKnown", unfollowed := true, recurses := true, apart := false }
def GrantsKnownSaid : Prop := grantsKnownRow.holds Tryz.pinned (OpenSpec.ofChange grantsKnownSpec)

/-- ITS FALSE NEIGHBOUR: 'it returns false'. Refute it at one input. -/
def grantsKnownWrong : ChangeSpec := { name := "grantsKnown", fn := fun _ => fun
  | [] => { results := [.lit (.bool false)], args := [] }
  | _ => none }
def GrantsKnownWrongFalsely : Prop := grantsKnownRow.holds Tryz.pinned (OpenSpec.ofChange grantsKnownWrong)

/- THE SECOND FORM. 'bulk': how many values and letters a reading holds, each counted each time it is reached (what is shared counts as often as it is met; a slice's spare places count too). A statement '..UptoSaid' is the law's where the arguments, and the package variables that the reading takes, are together of bulk at most 1048576: NARROWER than '..Said'. Prove '..Said' where nothing that the law and all that it calls make is longer than what came in: it says more and counts as full. Else prove '..UptoSaid'. A law counts once. -/
mutual
def uptoBulk {H : Type} : DataW H → Nat
  | .lit (.string bytes) => bytes.length + 1
  | .lit _ => 1
  | .nil => 1
  | .ptr d => uptoBulk d + 1
  | .slice elems spare => uptoBulkAll elems + uptoBulkAll spare + 1
  | .agg parts => uptoBulkAll parts + 1
  | .iface _ d => uptoBulk d + 1
  | .map entries => uptoBulkEntries entries + 1
  | .held _ => 1
def uptoBulkAll {H : Type} : List (DataW H) → Nat
  | [] => 0
  | d :: r => uptoBulk d + uptoBulkAll r
def uptoBulkEntries {H : Type} : List (Lit × DataW H) → Nat
  | [] => 0
  | x :: r => uptoBulkEntry x + uptoBulkEntries r
def uptoBulkEntry {H : Type} : Lit × DataW H → Nat
  | (.string bytes, d) => bytes.length + uptoBulk d + 1
  | (_, d) => uptoBulk d + 1
 end
def uptoSmall : (H : Type) → List (DataW H) → Bool := fun _ ds => decide (uptoBulkAll ds ≤ 1048576)
def OpenSpec.upto (s : _root_.Go.ChangeSpec) : _root_.Go.OpenSpec := { _root_.Go.OpenSpec.ofChange s with cond := some uptoSmall }

/-- 'bookendlaw17.InstallKnown', WHERE WHAT IT READS IS OF BULK AT MOST 1048576: true; the input reads as it did. -/
def installKnownUptoRow : OpenClaim := { program := "ytljcklmfjomanaagreat", sum := "298c1bc12d241d7ab7770e138588c85562dabfddc7232d2d2f5e291a76676cc7", func := "bookend/bookendlaw17.InstallKnown", spec := "installKnown", unfollowed := true, recurses := true, apart := false, narrowed := true }
def InstallKnownUptoSaid : Prop := installKnownUptoRow.holds Tryz.pinned (OpenSpec.upto installKnownSpec)

/-- 'bookendlaw19.PressureKnown', WHERE WHAT IT READS IS OF BULK AT MOST 1048576: true; the input reads as it did. -/
def pressureKnownUptoRow : OpenClaim := { program := "ytljcklmfjomanaagreat", sum := "298c1bc12d241d7ab7770e138588c85562dabfddc7232d2d2f5e291a76676cc7", func := "bookend/bookendlaw19.PressureKnown", spec := "pressureKnown", unfollowed := true, recurses := true, apart := false, narrowed := true }
def PressureKnownUptoSaid : Prop := pressureKnownUptoRow.holds Tryz.pinned (OpenSpec.upto pressureKnownSpec)

/-- 'bookendlaw20.GrantsKnown', WHERE WHAT IT READS IS OF BULK AT MOST 1048576: true; the input reads as it did. -/
def grantsKnownUptoRow : OpenClaim := { program := "ytljcklmfjomanaagreat", sum := "298c1bc12d241d7ab7770e138588c85562dabfddc7232d2d2f5e291a76676cc7", func := "bookend/bookendlaw20.GrantsKnown", spec := "grantsKnown", unfollowed := true, recurses := true, apart := false, narrowed := true }
def GrantsKnownUptoSaid : Prop := grantsKnownUptoRow.holds Tryz.pinned (OpenSpec.upto grantsKnownSpec)

end Rows
end Go.Proofs.YtljcklmfjomanaaGreat
