/-
  No cell of these rows narrows 'for every input' (looked for: loops, veiled, ifaces, maps, wideKeys, modest, calm, conditions, laid).
  DERIVED. THE GIVEN ROWS OF THIS SEAT. 12 by the template 'for every input the law returns true; each argument reads behind the call as it read before'; 0 by the template 'total and deterministic' (their statements: YthpkjfabdccpdaaGreatTotals.lean).
  GIVEN WITH THE SEED: the statements are not yours to turn. If you find one false, say at which input.
  Laid BY PROGRAM, IN A SANDBOX (cutbox-rows.mjs): the forced cells as the released guide's own fill.sh prints them over the translation e7b3275a7f4a5bc1… (all of the seat's roots in one cut). By AI agents, Wed Nov 11 2026. No macro, syntax, notation, axiom, sorry.
-/
import Derived.Test.YthpkjfabdccpdaaGreatChecked
import GoSem.Claim
import GoSem.ClaimJoined
import GoSem.ClaimMapViews
import Derived.JoinedTies
import Derived.KernelRfl
namespace Go.Proofs.YthpkjfabdccpdaaGreat
/- THE CELL 'sum', in the pinned program and in every row, IS THE sha256 OF THE DUMP (.gsa) THAT YthpkjfabdccpdaaGreatProg.lean LOADS. Nothing in Lean hashes anything: it is a label: what it is worth is what the hold of that sum in a sandbox is worth. -/
noncomputable def Tryz.pinned : Pinned := { name := "ythpkjfabdccpdaagreat", sum := "e7b3275a7f4a5bc1f2e4fdda3cd64a0fd75e39681acd645b826350afc6e50fb0", checked := Tryz.checked }
namespace Rows
def none {H : Type} : Left H := { results := [], args := [] }

/-- 'bookendlaw34.BoundsFronts': WHATEVER THE INPUT: true; the input reads as it did. -/
def boundsFrontsSpec : ChangeSpec := { name := "boundsFronts", fn := fun _ => fun
  | [d1, d2] => { results := [.lit (.bool true)], args := [d1, d2] }
  | _ => none }
def boundsFrontsRow : OpenClaim := { program := "ythpkjfabdccpdaagreat", sum := "e7b3275a7f4a5bc1f2e4fdda3cd64a0fd75e39681acd645b826350afc6e50fb0", func := "bookend/bookendlaw34.BoundsFronts", spec := "boundsFronts", unfollowed := true, recurses := true, apart := false }
def BoundsFrontsSaid : Prop := boundsFrontsRow.holds Tryz.pinned (OpenSpec.ofChange boundsFrontsSpec)

/-- ITS FALSE NEIGHBOUR: 'it returns false'. Refute it at one input. -/
def boundsFrontsWrong : ChangeSpec := { name := "boundsFronts", fn := fun _ => fun
  | [d1, d2] => { results := [.lit (.bool false)], args := [d1, d2] }
  | _ => none }
def BoundsFrontsWrongFalsely : Prop := boundsFrontsRow.holds Tryz.pinned (OpenSpec.ofChange boundsFrontsWrong)

/-- 'bookendlaw17.InstallSteps': WHATEVER THE INPUT: true; the input reads as it did. -/
def installStepsSpec : ChangeSpec := { name := "installSteps", fn := fun _ => fun
  | [d1, d2] => { results := [.lit (.bool true)], args := [d1, d2] }
  | _ => none }
def installStepsRow : OpenClaim := { program := "ythpkjfabdccpdaagreat", sum := "e7b3275a7f4a5bc1f2e4fdda3cd64a0fd75e39681acd645b826350afc6e50fb0", func := "bookend/bookendlaw17.InstallSteps", spec := "installSteps", unfollowed := true, recurses := true, apart := false }
def InstallStepsSaid : Prop := installStepsRow.holds Tryz.pinned (OpenSpec.ofChange installStepsSpec)

/-- ITS FALSE NEIGHBOUR: 'it returns false'. Refute it at one input. -/
def installStepsWrong : ChangeSpec := { name := "installSteps", fn := fun _ => fun
  | [d1, d2] => { results := [.lit (.bool false)], args := [d1, d2] }
  | _ => none }
def InstallStepsWrongFalsely : Prop := installStepsRow.holds Tryz.pinned (OpenSpec.ofChange installStepsWrong)

/-- 'bookendlaw17.InstallAsks': WHATEVER THE INPUT: true; the input reads as it did. -/
def installAsksSpec : ChangeSpec := { name := "installAsks", fn := fun _ => fun
  | [d1, d2] => { results := [.lit (.bool true)], args := [d1, d2] }
  | _ => none }
def installAsksRow : OpenClaim := { program := "ythpkjfabdccpdaagreat", sum := "e7b3275a7f4a5bc1f2e4fdda3cd64a0fd75e39681acd645b826350afc6e50fb0", func := "bookend/bookendlaw17.InstallAsks", spec := "installAsks", unfollowed := true, recurses := true, apart := false }
def InstallAsksSaid : Prop := installAsksRow.holds Tryz.pinned (OpenSpec.ofChange installAsksSpec)

/-- ITS FALSE NEIGHBOUR: 'it returns false'. Refute it at one input. -/
def installAsksWrong : ChangeSpec := { name := "installAsks", fn := fun _ => fun
  | [d1, d2] => { results := [.lit (.bool false)], args := [d1, d2] }
  | _ => none }
def InstallAsksWrongFalsely : Prop := installAsksRow.holds Tryz.pinned (OpenSpec.ofChange installAsksWrong)

/-- 'bookendlaw17.InstallArrives': WHATEVER THE INPUT: true; the input reads as it did. -/
def installArrivesSpec : ChangeSpec := { name := "installArrives", fn := fun _ => fun
  | [d1, d2] => { results := [.lit (.bool true)], args := [d1, d2] }
  | _ => none }
def installArrivesRow : OpenClaim := { program := "ythpkjfabdccpdaagreat", sum := "e7b3275a7f4a5bc1f2e4fdda3cd64a0fd75e39681acd645b826350afc6e50fb0", func := "bookend/bookendlaw17.InstallArrives", spec := "installArrives", unfollowed := true, recurses := true, apart := false }
def InstallArrivesSaid : Prop := installArrivesRow.holds Tryz.pinned (OpenSpec.ofChange installArrivesSpec)

/-- ITS FALSE NEIGHBOUR: 'it returns false'. Refute it at one input. -/
def installArrivesWrong : ChangeSpec := { name := "installArrives", fn := fun _ => fun
  | [d1, d2] => { results := [.lit (.bool false)], args := [d1, d2] }
  | _ => none }
def InstallArrivesWrongFalsely : Prop := installArrivesRow.holds Tryz.pinned (OpenSpec.ofChange installArrivesWrong)

/-- 'bookendlaw17.InstallGoes': WHATEVER THE INPUT: true; the input reads as it did. -/
def installGoesSpec : ChangeSpec := { name := "installGoes", fn := fun _ => fun
  | [d1, d2] => { results := [.lit (.bool true)], args := [d1, d2] }
  | _ => none }
def installGoesRow : OpenClaim := { program := "ythpkjfabdccpdaagreat", sum := "e7b3275a7f4a5bc1f2e4fdda3cd64a0fd75e39681acd645b826350afc6e50fb0", func := "bookend/bookendlaw17.InstallGoes", spec := "installGoes", unfollowed := true, recurses := true, apart := false }
def InstallGoesSaid : Prop := installGoesRow.holds Tryz.pinned (OpenSpec.ofChange installGoesSpec)

/-- ITS FALSE NEIGHBOUR: 'it returns false'. Refute it at one input. -/
def installGoesWrong : ChangeSpec := { name := "installGoes", fn := fun _ => fun
  | [d1, d2] => { results := [.lit (.bool false)], args := [d1, d2] }
  | _ => none }
def InstallGoesWrongFalsely : Prop := installGoesRow.holds Tryz.pinned (OpenSpec.ofChange installGoesWrong)

/-- 'bookendlaw17.InstallRises': WHATEVER THE INPUT: true; the input reads as it did. -/
def installRisesSpec : ChangeSpec := { name := "installRises", fn := fun _ => fun
  | [d1, d2] => { results := [.lit (.bool true)], args := [d1, d2] }
  | _ => none }
def installRisesRow : OpenClaim := { program := "ythpkjfabdccpdaagreat", sum := "e7b3275a7f4a5bc1f2e4fdda3cd64a0fd75e39681acd645b826350afc6e50fb0", func := "bookend/bookendlaw17.InstallRises", spec := "installRises", unfollowed := true, recurses := true, apart := false }
def InstallRisesSaid : Prop := installRisesRow.holds Tryz.pinned (OpenSpec.ofChange installRisesSpec)

/-- ITS FALSE NEIGHBOUR: 'it returns false'. Refute it at one input. -/
def installRisesWrong : ChangeSpec := { name := "installRises", fn := fun _ => fun
  | [d1, d2] => { results := [.lit (.bool false)], args := [d1, d2] }
  | _ => none }
def InstallRisesWrongFalsely : Prop := installRisesRow.holds Tryz.pinned (OpenSpec.ofChange installRisesWrong)

/-- 'bookendlaw19.PressureAsks': WHATEVER THE INPUT: true; the input reads as it did. -/
def pressureAsksSpec : ChangeSpec := { name := "pressureAsks", fn := fun _ => fun
  | [d1, d2, d3] => { results := [.lit (.bool true)], args := [d1, d2, d3] }
  | _ => none }
def pressureAsksRow : OpenClaim := { program := "ythpkjfabdccpdaagreat", sum := "e7b3275a7f4a5bc1f2e4fdda3cd64a0fd75e39681acd645b826350afc6e50fb0", func := "bookend/bookendlaw19.PressureAsks", spec := "pressureAsks", unfollowed := true, recurses := true, apart := false }
def PressureAsksSaid : Prop := pressureAsksRow.holds Tryz.pinned (OpenSpec.ofChange pressureAsksSpec)

/-- ITS FALSE NEIGHBOUR: 'it returns false'. Refute it at one input. -/
def pressureAsksWrong : ChangeSpec := { name := "pressureAsks", fn := fun _ => fun
  | [d1, d2, d3] => { results := [.lit (.bool false)], args := [d1, d2, d3] }
  | _ => none }
def PressureAsksWrongFalsely : Prop := pressureAsksRow.holds Tryz.pinned (OpenSpec.ofChange pressureAsksWrong)

/-- 'bookendlaw19.PressureWrites': WHATEVER THE INPUT: true; the input reads as it did. -/
def pressureWritesSpec : ChangeSpec := { name := "pressureWrites", fn := fun _ => fun
  | [d1, d2] => { results := [.lit (.bool true)], args := [d1, d2] }
  | _ => none }
def pressureWritesRow : OpenClaim := { program := "ythpkjfabdccpdaagreat", sum := "e7b3275a7f4a5bc1f2e4fdda3cd64a0fd75e39681acd645b826350afc6e50fb0", func := "bookend/bookendlaw19.PressureWrites", spec := "pressureWrites", unfollowed := true, recurses := true, apart := false }
def PressureWritesSaid : Prop := pressureWritesRow.holds Tryz.pinned (OpenSpec.ofChange pressureWritesSpec)

/-- ITS FALSE NEIGHBOUR: 'it returns false'. Refute it at one input. -/
def pressureWritesWrong : ChangeSpec := { name := "pressureWrites", fn := fun _ => fun
  | [d1, d2] => { results := [.lit (.bool false)], args := [d1, d2] }
  | _ => none }
def PressureWritesWrongFalsely : Prop := pressureWritesRow.holds Tryz.pinned (OpenSpec.ofChange pressureWritesWrong)

/-- 'bookendlaw19.PressureFree': WHATEVER THE INPUT: true; the input reads as it did. -/
def pressureFreeSpec : ChangeSpec := { name := "pressureFree", fn := fun _ => fun
  | [d] => { results := [.lit (.bool true)], args := [d] }
  | _ => none }
def pressureFreeRow : OpenClaim := { program := "ythpkjfabdccpdaagreat", sum := "e7b3275a7f4a5bc1f2e4fdda3cd64a0fd75e39681acd645b826350afc6e50fb0", func := "bookend/bookendlaw19.PressureFree", spec := "pressureFree", unfollowed := true, recurses := true, apart := false }
def PressureFreeSaid : Prop := pressureFreeRow.holds Tryz.pinned (OpenSpec.ofChange pressureFreeSpec)

/-- ITS FALSE NEIGHBOUR: 'it returns false'. Refute it at one input. -/
def pressureFreeWrong : ChangeSpec := { name := "pressureFree", fn := fun _ => fun
  | [d] => { results := [.lit (.bool false)], args := [d] }
  | _ => none }
def PressureFreeWrongFalsely : Prop := pressureFreeRow.holds Tryz.pinned (OpenSpec.ofChange pressureFreeWrong)

/-- 'bookendlaw20.GrantsShares': WHATEVER THE INPUT: true; the input reads as it did. -/
def grantsSharesSpec : ChangeSpec := { name := "grantsShares", fn := fun _ => fun
  | [d1, d2] => { results := [.lit (.bool true)], args := [d1, d2] }
  | _ => none }
def grantsSharesRow : OpenClaim := { program := "ythpkjfabdccpdaagreat", sum := "e7b3275a7f4a5bc1f2e4fdda3cd64a0fd75e39681acd645b826350afc6e50fb0", func := "bookend/bookendlaw20.GrantsShares", spec := "grantsShares", unfollowed := true, recurses := true, apart := false }
def GrantsSharesSaid : Prop := grantsSharesRow.holds Tryz.pinned (OpenSpec.ofChange grantsSharesSpec)

/-- ITS FALSE NEIGHBOUR: 'it returns false'. Refute it at one input. -/
def grantsSharesWrong : ChangeSpec := { name := "grantsShares", fn := fun _ => fun
  | [d1, d2] => { results := [.lit (.bool false)], args := [d1, d2] }
  | _ => none }
def GrantsSharesWrongFalsely : Prop := grantsSharesRow.holds Tryz.pinned (OpenSpec.ofChange grantsSharesWrong)

/-- 'bookendlaw20.GrantsNeeds': WHATEVER THE INPUT: true; the input reads as it did. -/
def grantsNeedsSpec : ChangeSpec := { name := "grantsNeeds", fn := fun _ => fun
  | [d1, d2] => { results := [.lit (.bool true)], args := [d1, d2] }
  | _ => none }
def grantsNeedsRow : OpenClaim := { program := "ythpkjfabdccpdaagreat", sum := "e7b3275a7f4a5bc1f2e4fdda3cd64a0fd75e39681acd645b826350afc6e50fb0", func := "bookend/bookendlaw20.GrantsNeeds", spec := "grantsNeeds", unfollowed := true, recurses := true, apart := false }
def GrantsNeedsSaid : Prop := grantsNeedsRow.holds Tryz.pinned (OpenSpec.ofChange grantsNeedsSpec)

/-- ITS FALSE NEIGHBOUR: 'it returns false'. Refute it at one input. -/
def grantsNeedsWrong : ChangeSpec := { name := "grantsNeeds", fn := fun _ => fun
  | [d1, d2] => { results := [.lit (.bool false)], args := [d1, d2] }
  | _ => none }
def GrantsNeedsWrongFalsely : Prop := grantsNeedsRow.holds Tryz.pinned (OpenSpec.ofChange grantsNeedsWrong)

/-- 'bookendlaw20.GrantsLowest': WHATEVER THE INPUT: true; the input reads as it did. -/
def grantsLowestSpec : ChangeSpec := { name := "grantsLowest", fn := fun _ => fun
  | [d1, d2] => { results := [.lit (.bool true)], args := [d1, d2] }
  | _ => none }
def grantsLowestRow : OpenClaim := { program := "ythpkjfabdccpdaagreat", sum := "e7b3275a7f4a5bc1f2e4fdda3cd64a0fd75e39681acd645b826350afc6e50fb0", func := "bookend/bookendlaw20.GrantsLowest", spec := "grantsLowest", unfollowed := true, recurses := true, apart := false }
def GrantsLowestSaid : Prop := grantsLowestRow.holds Tryz.pinned (OpenSpec.ofChange grantsLowestSpec)

/-- ITS FALSE NEIGHBOUR: 'it returns false'. Refute it at one input. -/
def grantsLowestWrong : ChangeSpec := { name := "grantsLowest", fn := fun _ => fun
  | [d1, d2] => { results := [.lit (.bool false)], args := [d1, d2] }
  | _ => none }
def GrantsLowestWrongFalsely : Prop := grantsLowestRow.holds Tryz.pinned (OpenSpec.ofChange grantsLowestWrong)

/- THE SECOND FORM. 'bulk': how many values and letters a reading holds, each counted each time it is reached (what is shared counts as often as it is met; a slice's spare places count too). A statement '..UptoSaid' is the law's where the arguments, and the package variables that the reading takes, are together of bulk at most 1048576: NARROWER than '..Said'. Prove '..Said' where nothing that the law and all that it calls make is longer than what came in: it says more and counts as full. Else prove '..UptoSaid'. A law counts once. -/
mutual
def uptoBulk {H : Type} : DataW H → Nat
  | .lit (.string bytes) => bytes.length + 1
  | .lit _ => 1
  | .nil => 1
  | .ptr d => uptoBulk d + 1
  | .slice elems spare => uptoBulkAll elems + uptoBulkAll spare + 1
  | .agg parts => uptoBulkAll parts + 1
  | .iface _ d => uptoBulk d + 1
  | .map entries => uptoBulkEntries entries + 1
  | .held _ => 1
def uptoBulkAll {H : Type} : List (DataW H) → Nat
  | [] => 0
  | d :: r => uptoBulk d + uptoBulkAll r
def uptoBulkEntries {H : Type} : List (Lit × DataW H) → Nat
  | [] => 0
  | x :: r => uptoBulkEntry x + uptoBulkEntries r
def uptoBulkEntry {H : Type} : Lit × DataW H → Nat
  | (.string bytes, d) => bytes.length + uptoBulk d + 1
  | (_, d) => uptoBulk d + 1
 end
def uptoSmall : (H : Type) → List (DataW H) → Bool := fun _ ds => decide (uptoBulkAll ds ≤ 1048576)
def OpenSpec.upto (s : _root_.Go.ChangeSpec) : _root_.Go.OpenSpec := { _root_.Go.OpenSpec.ofChange s with cond := some uptoSmall }

/-- 'bookendlaw34.BoundsFronts', WHERE WHAT IT READS IS OF BULK AT MOST 1048576: true; the input reads as it did. -/
def boundsFrontsUptoRow : OpenClaim := { program := "ythpkjfabdccpdaagreat", sum := "e7b3275a7f4a5bc1f2e4fdda3cd64a0fd75e39681acd645b826350afc6e50fb0", func := "bookend/bookendlaw34.BoundsFronts", spec := "boundsFronts", unfollowed := true, recurses := true, apart := false, narrowed := true }
def BoundsFrontsUptoSaid : Prop := boundsFrontsUptoRow.holds Tryz.pinned (OpenSpec.upto boundsFrontsSpec)

/-- 'bookendlaw17.InstallSteps', WHERE WHAT IT READS IS OF BULK AT MOST 1048576: true; the input reads as it did. -/
def installStepsUptoRow : OpenClaim := { program := "ythpkjfabdccpdaagreat", sum := "e7b3275a7f4a5bc1f2e4fdda3cd64a0fd75e39681acd645b826350afc6e50fb0", func := "bookend/bookendlaw17.InstallSteps", spec := "installSteps", unfollowed := true, recurses := true, apart := false, narrowed := true }
def InstallStepsUptoSaid : Prop := installStepsUptoRow.holds Tryz.pinned (OpenSpec.upto installStepsSpec)

/-- 'bookendlaw17.InstallAsks', WHERE WHAT IT READS IS OF BULK AT MOST 1048576: true; the input reads as it did. -/
def installAsksUptoRow : OpenClaim := { program := "ythpkjfabdccpdaagreat", sum := "e7b3275a7f4a5bc1f2e4fdda3cd64a0fd75e39681acd645b826350afc6e50fb0", func := "bookend/bookendlaw17.InstallAsks", spec := "installAsks", unfollowed := true, recurses := true, apart := false, narrowed := true }
def InstallAsksUptoSaid : Prop := installAsksUptoRow.holds Tryz.pinned (OpenSpec.upto installAsksSpec)

/-- 'bookendlaw17.InstallArrives', WHERE WHAT IT READS IS OF BULK AT MOST 1048576: true; the input reads as it did. -/
def installArrivesUptoRow : OpenClaim := { program := "ythpkjfabdccpdaagreat", sum := "e7b3275a7f4a5bc1f2e4fdda3cd64a0fd75e39681acd645b826350afc6e50fb0", func := "bookend/bookendlaw17.InstallArrives", spec := "installArrives", unfollowed := true, recurses := true, apart := false, narrowed := true }
def InstallArrivesUptoSaid : Prop := installArrivesUptoRow.holds Tryz.pinned (OpenSpec.upto installArrivesSpec)

/-- 'bookendlaw17.InstallGoes', WHERE WHAT IT READS IS OF BULK AT MOST 1048576: true; the input reads as it did. -/
def installGoesUptoRow : OpenClaim := { program := "ythpkjfabdccpdaagreat", sum := "e7b3275a7f4a5bc1f2e4fdda3cd64a0fd75e39681acd645b826350afc6e50fb0", func := "bookend/bookendlaw17.InstallGoes", spec := "installGoes", unfollowed := true, recurses := true, apart := false, narrowed := true }
def InstallGoesUptoSaid : Prop := installGoesUptoRow.holds Tryz.pinned (OpenSpec.upto installGoesSpec)

/-- 'bookendlaw17.InstallRises', WHERE WHAT IT READS IS OF BULK AT MOST 1048576: true; the input reads as it did. -/
def installRisesUptoRow : OpenClaim := { program := "ythpkjfabdccpdaagreat", sum := "e7b3275a7f4a5bc1f2e4fdda3cd64a0fd75e39681acd645b826350afc6e50fb0", func := "bookend/bookendlaw17.InstallRises", spec := "installRises", unfollowed := true, recurses := true, apart := false, narrowed := true }
def InstallRisesUptoSaid : Prop := installRisesUptoRow.holds Tryz.pinned (OpenSpec.upto installRisesSpec)

/-- 'bookendlaw19.PressureAsks', WHERE WHAT IT READS IS OF BULK AT MOST 1048576: true; the input reads as it did. -/
def pressureAsksUptoRow : OpenClaim := { program := "ythpkjfabdccpdaagreat", sum := "e7b3275a7f4a5bc1f2e4fdda3cd64a0fd75e39681acd645b826350afc6e50fb0", func := "bookend/bookendlaw19.PressureAsks", spec := "pressureAsks", unfollowed := true, recurses := true, apart := false, narrowed := true }
def PressureAsksUptoSaid : Prop := pressureAsksUptoRow.holds Tryz.pinned (OpenSpec.upto pressureAsksSpec)

/-- 'bookendlaw19.PressureWrites', WHERE WHAT IT READS IS OF BULK AT MOST 1048576: true; the input reads as it did. -/
def pressureWritesUptoRow : OpenClaim := { program := "ythpkjfabdccpdaagreat", sum := "e7b3275a7f4a5bc1f2e4fdda3cd64a0fd75e39681acd645b826350afc6e50fb0", func := "bookend/bookendlaw19.PressureWrites", spec := "pressureWrites", unfollowed := true, recurses := true, apart := false, narrowed := true }
def PressureWritesUptoSaid : Prop := pressureWritesUptoRow.holds Tryz.pinned (OpenSpec.upto pressureWritesSpec)

/-- 'bookendlaw19.PressureFree', WHERE WHAT IT READS IS OF BULK AT MOST 1048576: true; the input reads as it did. -/
def pressureFreeUptoRow : OpenClaim := { program := "ythpkjfabdccpdaagreat", sum := "e7b3275a7f4a5bc1f2e4fdda3cd64a0fd75e39681acd645b826350afc6e50fb0", func := "bookend/bookendlaw19.PressureFree", spec := "pressureFree", unfollowed := true, recurses := true, apart := false, narrowed := true }
def PressureFreeUptoSaid : Prop := pressureFreeUptoRow.holds Tryz.pinned (OpenSpec.upto pressureFreeSpec)

/-- 'bookendlaw20.GrantsShares', WHERE WHAT IT READS IS OF BULK AT MOST 1048576: true; the input reads as it did. -/
def grantsSharesUptoRow : OpenClaim := { program := "ythpkjfabdccpdaagreat", sum := "e7b3275a7f4a5bc1f2e4fdda3cd64a0fd75e39681acd645b826350afc6e50fb0", func := "bookend/bookendlaw20.GrantsShares", spec := "grantsShares", unfollowed := true, recurses := true, apart := false, narrowed := true }
def GrantsSharesUptoSaid : Prop := grantsSharesUptoRow.holds Tryz.pinned (OpenSpec.upto grantsSharesSpec)

/-- 'bookendlaw20.GrantsNeeds', WHERE WHAT IT READS IS OF BULK AT MOST 1048576: true; the input reads as it did. -/
def grantsNeedsUptoRow : OpenClaim := { program := "ythpkjfabdccpdaagreat", sum := "e7b3275a7f4a5bc1f2e4fdda3cd64a0fd75e39681acd645b826350afc6e50fb0", func := "bookend/bookendlaw20.GrantsNeeds", spec := "grantsNeeds", unfollowed := true, recurses := true, apart := false, narrowed := true }
def GrantsNeedsUptoSaid : Prop := grantsNeedsUptoRow.holds Tryz.pinned (OpenSpec.upto grantsNeedsSpec)

/-- 'bookendlaw20.GrantsLowest', WHERE WHAT IT READS IS OF BULK AT MOST 1048576: true; the input reads as it did. -/
def grantsLowestUptoRow : OpenClaim := { program := "ythpkjfabdccpdaagreat", sum := "e7b3275a7f4a5bc1f2e4fdda3cd64a0fd75e39681acd645b826350afc6e50fb0", func := "bookend/bookendlaw20.GrantsLowest", spec := "grantsLowest", unfollowed := true, recurses := true, apart := false, narrowed := true }
def GrantsLowestUptoSaid : Prop := grantsLowestUptoRow.holds Tryz.pinned (OpenSpec.upto grantsLowestSpec)

end Rows
end Go.Proofs.YthpkjfabdccpdaaGreat
