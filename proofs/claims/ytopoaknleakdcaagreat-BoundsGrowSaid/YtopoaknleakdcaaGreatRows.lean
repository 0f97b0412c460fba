/-
  No cell of these rows narrows 'for every input' (looked for: loops, veiled, ifaces, maps, wideKeys, modest, calm, conditions, laid).
  DERIVED. THE GIVEN ROWS OF THIS SEAT. 4 by the template 'for every input the law returns true; each argument reads behind the call as it read before'; 0 by the template 'total and deterministic' (their statements: YtopoaknleakdcaaGreatTotals.lean).
  GIVEN WITH THE SEED: the statements are not yours to turn. If you find one false, say at which input.
  Laid BY PROGRAM, IN A SANDBOX (cutbox-rows.mjs): the forced cells as the released guide's own fill.sh prints them over the translation 302da548759da581… (all of the seat's roots in one cut). By AI agents, Wed Nov 11 2026. No macro, syntax, notation, axiom, sorry.
-/
import Derived.Test.YtopoaknleakdcaaGreatChecked
import GoSem.Claim
import GoSem.ClaimJoined
import GoSem.ClaimMapViews
import Derived.JoinedTies
import Derived.KernelRfl
namespace Go.Proofs.YtopoaknleakdcaaGreat
/- THE CELL 'sum', in the pinned program and in every row, IS THE sha256 OF THE DUMP (.gsa) THAT YtopoaknleakdcaaGreatProg.lean LOADS. Nothing in Lean hashes anything: it is a label: what it is worth is what the hold of that sum in a sandbox is worth. -/
noncomputable def Tryz.pinned : Pinned := { name := "ytopoaknleakdcaagreat", sum := "302da548759da5819a1d5526067f5283949c82504a5de4aa1d17a894ce8b74af", checked := Tryz.checked }
namespace Rows
def none {H : Type} : Left H := { results := [], args := [] }

/-- 'bookendlaw34.BoundsFronts': WHATEVER THE INPUT: true; the input reads as it did. -/
def boundsFrontsSpec : ChangeSpec := { name := "boundsFronts", fn := fun _ => fun
  | [d1, d2] => { results := [.lit (.bool true)], args := [d1, d2] }
  | _ => none }
def boundsFrontsRow : OpenClaim := { program := "ytopoaknleakdcaagreat", sum := "302da548759da5819a1d5526067f5283949c82504a5de4aa1d17a894ce8b74af", func := "bookend/bookendlaw34.BoundsFronts", spec := "boundsFronts", unfollowed := true, recurses := true, apart := false }
def BoundsFrontsSaid : Prop := boundsFrontsRow.holds Tryz.pinned (OpenSpec.ofChange boundsFrontsSpec)

/-- ITS FALSE NEIGHBOUR: 'it returns false'. Refute it at one input. -/
def boundsFrontsWrong : ChangeSpec := { name := "boundsFronts", fn := fun _ => fun
  | [d1, d2] => { results := [.lit (.bool false)], args := [d1, d2] }
  | _ => none }
def BoundsFrontsWrongFalsely : Prop := boundsFrontsRow.holds Tryz.pinned (OpenSpec.ofChange boundsFrontsWrong)

/-- 'bookendlaw34.BoundsGrow': WHATEVER THE INPUT: true; the input reads as it did. -/
def boundsGrowSpec : ChangeSpec := { name := "boundsGrow", fn := fun _ => fun
  | [d1, d2, d3] => { results := [.lit (.bool true)], args := [d1, d2, d3] }
  | _ => none }
def boundsGrowRow : OpenClaim := { program := "ytopoaknleakdcaagreat", sum := "302da548759da5819a1d5526067f5283949c82504a5de4aa1d17a894ce8b74af", func := "bookend/bookendlaw34.BoundsGrow", spec := "boundsGrow", unfollowed := true, recurses := true, apart := false }
def BoundsGrowSaid : Prop := boundsGrowRow.holds Tryz.pinned (OpenSpec.ofChange boundsGrowSpec)

/-- ITS FALSE NEIGHBOUR: 'it returns false'. Refute it at one input. -/
def boundsGrowWrong : ChangeSpec := { name := "boundsGrow", fn := fun _ => fun
  | [d1, d2, d3] => { results := [.lit (.bool false)], args := [d1, d2, d3] }
  | _ => none }
def BoundsGrowWrongFalsely : Prop := boundsGrowRow.holds Tryz.pinned (OpenSpec.ofChange boundsGrowWrong)

/-- 'bookendlaw34.BoundsNumbers': WHATEVER THE INPUT: true; the input reads as it did. -/
def boundsNumbersSpec : ChangeSpec := { name := "boundsNumbers", fn := fun _ => fun
  | [d1, d2, d3] => { results := [.lit (.bool true)], args := [d1, d2, d3] }
  | _ => none }
def boundsNumbersRow : OpenClaim := { program := "ytopoaknleakdcaagreat", sum := "302da548759da5819a1d5526067f5283949c82504a5de4aa1d17a894ce8b74af", func := "bookend/bookendlaw34.BoundsNumbers", spec := "boundsNumbers", unfollowed := true, recurses := true, apart := false }
def BoundsNumbersSaid : Prop := boundsNumbersRow.holds Tryz.pinned (OpenSpec.ofChange boundsNumbersSpec)

/-- ITS FALSE NEIGHBOUR: 'it returns false'. Refute it at one input. -/
def boundsNumbersWrong : ChangeSpec := { name := "boundsNumbers", fn := fun _ => fun
  | [d1, d2, d3] => { results := [.lit (.bool false)], args := [d1, d2, d3] }
  | _ => none }
def BoundsNumbersWrongFalsely : Prop := boundsNumbersRow.holds Tryz.pinned (OpenSpec.ofChange boundsNumbersWrong)

/-- 'bookendlaw25.VersionsKnown': WHATEVER THE INPUT: true; the input reads as it did. -/
def versionsKnownSpec : ChangeSpec := { name := "versionsKnown", fn := fun _ => fun
  | [] => { results := [.lit (.bool true)], args := [] }
  | _ => none }
def versionsKnownRow : OpenClaim := { program := "ytopoaknleakdcaagreat", sum := "302da548759da5819a1d5526067f5283949c82504a5de4aa1d17a894ce8b74af", func := "bookend/bookendlaw25.VersionsKnown", spec := "versionsKnown", inPlace := ["internal/abi.NoEscape"], unfollowed := true, recurses := true, apart := false }
def VersionsKnownSaid : Prop := versionsKnownRow.holds Tryz.pinned (OpenSpec.ofChange versionsKnownSpec)

/-- ITS FALSE NEIGHBOUR: 'it returns false'. Refute it at one input. -/
def versionsKnownWrong : ChangeSpec := { name := "versionsKnown", fn := fun _ => fun
  | [] => { results := [.lit (.bool false)], args := [] }
  | _ => none }
def VersionsKnownWrongFalsely : Prop := versionsKnownRow.holds Tryz.pinned (OpenSpec.ofChange versionsKnownWrong)

/- THE SECOND FORM. 'bulk': how many values and letters a reading holds, each counted each time it is reached (what is shared counts as often as it is met; a slice's spare places count too). A statement '..UptoSaid' is the law's where the arguments, and the package variables that the reading takes, are together of bulk at most 1048576: NARROWER than '..Said'. Prove '..Said' where nothing that the law and all that it calls make is longer than what came in: it says more and counts as full. Else prove '..UptoSaid'. A law counts once. -/
mutual
def uptoBulk {H : Type} : DataW H → Nat
  | .lit (.string bytes) => bytes.length + 1
  | .lit _ => 1
  | .nil => 1
  | .ptr d => uptoBulk d + 1
  | .slice elems spare => uptoBulkAll elems + uptoBulkAll spare + 1
  | .agg parts => uptoBulkAll parts + 1
  | .iface _ d => uptoBulk d + 1
  | .map entries => uptoBulkEntries entries + 1
  | .held _ => 1
def uptoBulkAll {H : Type} : List (DataW H) → Nat
  | [] => 0
  | d :: r => uptoBulk d + uptoBulkAll r
def uptoBulkEntries {H : Type} : List (Lit × DataW H) → Nat
  | [] => 0
  | x :: r => uptoBulkEntry x + uptoBulkEntries r
def uptoBulkEntry {H : Type} : Lit × DataW H → Nat
  | (.string bytes, d) => bytes.length + uptoBulk d + 1
  | (_, d) => uptoBulk d + 1
 end
def uptoSmall : (H : Type) → List (DataW H) → Bool := fun _ ds => decide (uptoBulkAll ds ≤ 1048576)
def OpenSpec.upto (s : _root_.Go.ChangeSpec) : _root_.Go.OpenSpec := { _root_.Go.OpenSpec.ofChange s with cond := some uptoSmall }

/-- 'bookendlaw34.BoundsFronts', WHERE WHAT IT READS IS OF BULK AT MOST 1048576: true; the input reads as it did. -/
def boundsFrontsUptoRow : OpenClaim := { program := "ytopoaknleakdcaagreat", sum := "302da548759da5819a1d5526067f5283949c82504a5de4aa1d17a894ce8b74af", func := "bookend/bookendlaw34.BoundsFronts", spec := "boundsFronts", unfollowed := true, recurses := true, apart := false, narrowed := true }
def BoundsFrontsUptoSaid : Prop := boundsFrontsUptoRow.holds Tryz.pinned (OpenSpec.upto boundsFrontsSpec)

/-- 'bookendlaw34.BoundsGrow', WHERE WHAT IT READS IS OF BULK AT MOST 1048576: true; the input reads as it did. -/
def boundsGrowUptoRow : OpenClaim := { program := "ytopoaknleakdcaagreat", sum := "302da548759da5819a1d5526067f5283949c82504a5de4aa1d17a894ce8b74af", func := "bookend/bookendlaw34.BoundsGrow", spec := "boundsGrow", unfollowed := true, recurses := true, apart := false, narrowed := true }
def BoundsGrowUptoSaid : Prop := boundsGrowUptoRow.holds Tryz.pinned (OpenSpec.upto boundsGrowSpec)

/-- 'bookendlaw34.BoundsNumbers', WHERE WHAT IT READS IS OF BULK AT MOST 1048576: true; the input reads as it did. -/
def boundsNumbersUptoRow : OpenClaim := { program := "ytopoaknleakdcaagreat", sum := "302da548759da5819a1d5526067f5283949c82504a5de4aa1d17a894ce8b74af", func := "bookend/bookendlaw34.BoundsNumbers", spec := "boundsNumbers", unfollowed := true, recurses := true, apart := false, narrowed := true }
def BoundsNumbersUptoSaid : Prop := boundsNumbersUptoRow.holds Tryz.pinned (OpenSpec.upto boundsNumbersSpec)

/-- 'bookendlaw25.VersionsKnown', WHERE WHAT IT READS IS OF BULK AT MOST 1048576: true; the input reads as it did. -/
def versionsKnownUptoRow : OpenClaim := { program := "ytopoaknleakdcaagreat", sum := "302da548759da5819a1d5526067f5283949c82504a5de4aa1d17a894ce8b74af", func := "bookend/bookendlaw25.VersionsKnown", spec := "versionsKnown", inPlace := ["internal/abi.NoEscape"], unfollowed := true, recurses := true, apart := false, narrowed := true }
def VersionsKnownUptoSaid : Prop := versionsKnownUptoRow.holds Tryz.pinned (OpenSpec.upto versionsKnownSpec)

end Rows
end Go.Proofs.YtopoaknleakdcaaGreat
