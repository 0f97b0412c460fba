/-
  No cell of these rows narrows 'for every input' (looked for: loops, veiled, ifaces, maps, wideKeys, modest, calm, conditions, laid).
  DERIVED. THE GIVEN ROWS OF THIS SEAT. 9 by the template 'for every input the law returns true; each argument reads behind the call as it read before'; 0 by the template 'total and deterministic' (their statements: YtfilfloanndddaaGreatTotals.lean).
  GIVEN WITH THE SEED: the statements are not yours to turn. If you find one false, say at which input.
  Laid BY PROGRAM, IN A SANDBOX (cutbox-rows.mjs): the forced cells as the released guide's own fill.sh prints them over the translation 180a932ae8461634… (all of the seat's roots in one cut). By AI agents, Wed Nov 11 2026. No macro, syntax, notation, axiom, sorry.
-/
import Derived.Test.YtfilfloanndddaaGreatChecked
import GoSem.Claim
import GoSem.ClaimJoined
import GoSem.ClaimMapViews
import Derived.JoinedTies
import Derived.KernelRfl
namespace Go.Proofs.YtfilfloanndddaaGreat
/- THE CELL 'sum', in the pinned program and in every row, IS THE sha256 OF THE DUMP (.gsa) THAT YtfilfloanndddaaGreatProg.lean LOADS. Nothing in Lean hashes anything: it is a label: what it is worth is what the hold of that sum in a sandbox is worth. -/
noncomputable def Tryz.pinned : Pinned := { name := "ytfilfloanndddaagreat", sum := "180a932ae84616349f6955361f38b950d00feace334fb64126cf771eea12d811", checked := Tryz.checked }
namespace Rows
def none {H : Type} : Left H := { results := [], args := [] }

/-- 'bookendlaw20.GrantsShares': WHATEVER THE INPUT: true; the input reads as it did. -/
def grantsSharesSpec : ChangeSpec := { name := "grantsShares", fn := fun _ => fun
  | [d1, d2] => { results := [.lit (.bool true)], args := [d1, d2] }
  | _ => none }
def grantsSharesRow : OpenClaim := { program := "ytfilfloanndddaagreat", sum := "180a932ae84616349f6955361f38b950d00feace334fb64126cf771eea12d811", func := "bookend/bookendlaw20.GrantsShares", spec := "grantsShares", unfollowed := true, recurses := true, apart := false }
def GrantsSharesSaid : Prop := grantsSharesRow.holds Tryz.pinned (OpenSpec.ofChange grantsSharesSpec)

/-- ITS FALSE NEIGHBOUR: 'it returns false'. Refute it at one input. -/
def grantsSharesWrong : ChangeSpec := { name := "grantsShares", fn := fun _ => fun
  | [d1, d2] => { results := [.lit (.bool false)], args := [d1, d2] }
  | _ => none }
def GrantsSharesWrongFalsely : Prop := grantsSharesRow.holds Tryz.pinned (OpenSpec.ofChange grantsSharesWrong)

/-- 'bookendlaw20.GrantsNeeds': WHATEVER THE INPUT: true; the input reads as it did. -/
def grantsNeedsSpec : ChangeSpec := { name := "grantsNeeds", fn := fun _ => fun
  | [d1, d2] => { results := [.lit (.bool true)], args := [d1, d2] }
  | _ => none }
def grantsNeedsRow : OpenClaim := { program := "ytfilfloanndddaagreat", sum := "180a932ae84616349f6955361f38b950d00feace334fb64126cf771eea12d811", func := "bookend/bookendlaw20.GrantsNeeds", spec := "grantsNeeds", unfollowed := true, recurses := true, apart := false }
def GrantsNeedsSaid : Prop := grantsNeedsRow.holds Tryz.pinned (OpenSpec.ofChange grantsNeedsSpec)

/-- ITS FALSE NEIGHBOUR: 'it returns false'. Refute it at one input. -/
def grantsNeedsWrong : ChangeSpec := { name := "grantsNeeds", fn := fun _ => fun
  | [d1, d2] => { results := [.lit (.bool false)], args := [d1, d2] }
  | _ => none }
def GrantsNeedsWrongFalsely : Prop := grantsNeedsRow.holds Tryz.pinned (OpenSpec.ofChange grantsNeedsWrong)

/-- 'bookendlaw20.GrantsLowest': WHATEVER THE INPUT: true; the input reads as it did. -/
def grantsLowestSpec : ChangeSpec := { name := "grantsLowest", fn := fun _ => fun
  | [d1, d2] => { results := [.lit (.bool true)], args := [d1, d2] }
  | _ => none }
def grantsLowestRow : OpenClaim := { program := "ytfilfloanndddaagreat", sum := "180a932ae84616349f6955361f38b950d00feace334fb64126cf771eea12d811", func := "bookend/bookendlaw20.GrantsLowest", spec := "grantsLowest", unfollowed := true, recurses := true, apart := false }
def GrantsLowestSaid : Prop := grantsLowestRow.holds Tryz.pinned (OpenSpec.ofChange grantsLowestSpec)

/-- ITS FALSE NEIGHBOUR: 'it returns false'. Refute it at one input. -/
def grantsLowestWrong : ChangeSpec := { name := "grantsLowest", fn := fun _ => fun
  | [d1, d2] => { results := [.lit (.bool false)], args := [d1, d2] }
  | _ => none }
def GrantsLowestWrongFalsely : Prop := grantsLowestRow.holds Tryz.pinned (OpenSpec.ofChange grantsLowestWrong)

/-- 'bookendlaw20.GrantsNeeded': WHATEVER THE INPUT: true; the input reads as it did. -/
def grantsNeededSpec : ChangeSpec := { name := "grantsNeeded", fn := fun _ => fun
  | [d1, d2] => { results := [.lit (.bool true)], args := [d1, d2] }
  | _ => none }
def grantsNeededRow : OpenClaim := { program := "ytfilfloanndddaagreat", sum := "180a932ae84616349f6955361f38b950d00feace334fb64126cf771eea12d811", func := "bookend/bookendlaw20.GrantsNeeded", spec := "grantsNeeded", unfollowed := true, recurses := true, apart := false }
def GrantsNeededSaid : Prop := grantsNeededRow.holds Tryz.pinned (OpenSpec.ofChange grantsNeededSpec)

/-- ITS FALSE NEIGHBOUR: 'it returns false'. Refute it at one input. -/
def grantsNeededWrong : ChangeSpec := { name := "grantsNeeded", fn := fun _ => fun
  | [d1, d2] => { results := [.lit (.bool false)], args := [d1, d2] }
  | _ => none }
def GrantsNeededWrongFalsely : Prop := grantsNeededRow.holds Tryz.pinned (OpenSpec.ofChange grantsNeededWrong)

/-- 'bookendlaw20.GrantsOrders': WHATEVER THE INPUT: true; the input reads as it did. -/
def grantsOrdersSpec : ChangeSpec := { name := "grantsOrders", fn := fun _ => fun
  | [d1, d2, d3] => { results := [.lit (.bool true)], args := [d1, d2, d3] }
  | _ => none }
def grantsOrdersRow : OpenClaim := { program := "ytfilfloanndddaagreat", sum := "180a932ae84616349f6955361f38b950d00feace334fb64126cf771eea12d811", func := "bookend/bookendlaw20.GrantsOrders", spec := "grantsOrders", unfollowed := true, recurses := true, apart := false }
def GrantsOrdersSaid : Prop := grantsOrdersRow.holds Tryz.pinned (OpenSpec.ofChange grantsOrdersSpec)

/-- ITS FALSE NEIGHBOUR: 'it returns false'. Refute it at one input. -/
def grantsOrdersWrong : ChangeSpec := { name := "grantsOrders", fn := fun _ => fun
  | [d1, d2, d3] => { results := [.lit (.bool false)], args := [d1, d2, d3] }
  | _ => none }
def GrantsOrdersWrongFalsely : Prop := grantsOrdersRow.holds Tryz.pinned (OpenSpec.ofChange grantsOrdersWrong)

/-- 'bookendlaw20.GrantsKeeps': WHATEVER THE INPUT: true; the input reads as it did. -/
def grantsKeepsSpec : ChangeSpec := { name := "grantsKeeps", fn := fun _ => fun
  | [d1, d2] => { results := [.lit (.bool true)], args := [d1, d2] }
  | _ => none }
def grantsKeepsRow : OpenClaim := { program := "ytfilfloanndddaagreat", sum := "180a932ae84616349f6955361f38b950d00feace334fb64126cf771eea12d811", func := "bookend/bookendlaw20.GrantsKeeps", spec := "grantsKeeps", unfollowed := true, recurses := true, apart := false }
def GrantsKeepsSaid : Prop := grantsKeepsRow.holds Tryz.pinned (OpenSpec.ofChange grantsKeepsSpec)

/-- ITS FALSE NEIGHBOUR: 'it returns false'. Refute it at one input. -/
def grantsKeepsWrong : ChangeSpec := { name := "grantsKeeps", fn := fun _ => fun
  | [d1, d2] => { results := [.lit (.bool false)], args := [d1, d2] }
  | _ => none }
def GrantsKeepsWrongFalsely : Prop := grantsKeepsRow.holds Tryz.pinned (OpenSpec.ofChange grantsKeepsWrong)

/-- 'bookendlaw20.GrantsSplits': WHATEVER THE INPUT: true; the input reads as it did. -/
def grantsSplitsSpec : ChangeSpec := { name := "grantsSplits", fn := fun _ => fun
  | [d1, d2, d3] => { results := [.lit (.bool true)], args := [d1, d2, d3] }
  | _ => none }
def grantsSplitsRow : OpenClaim := { program := "ytfilfloanndddaagreat", sum := "180a932ae84616349f6955361f38b950d00feace334fb64126cf771eea12d811", func := "bookend/bookendlaw20.GrantsSplits", spec := "grantsSplits", unfollowed := true, recurses := true, apart := false }
def GrantsSplitsSaid : Prop := grantsSplitsRow.holds Tryz.pinned (OpenSpec.ofChange grantsSplitsSpec)

/-- ITS FALSE NEIGHBOUR: 'it returns false'. Refute it at one input. -/
def grantsSplitsWrong : ChangeSpec := { name := "grantsSplits", fn := fun _ => fun
  | [d1, d2, d3] => { results := [.lit (.bool false)], args := [d1, d2, d3] }
  | _ => none }
def GrantsSplitsWrongFalsely : Prop := grantsSplitsRow.holds Tryz.pinned (OpenSpec.ofChange grantsSplitsWrong)

/-- 'bookendlaw20.GrantsMany': WHATEVER THE INPUT: true; the input reads as it did. -/
def grantsManySpec : ChangeSpec := { name := "grantsMany", fn := fun _ => fun
  | [d1, d2, d3] => { results := [.lit (.bool true)], args := [d1, d2, d3] }
  | _ => none }
def grantsManyRow : OpenClaim := { program := "ytfilfloanndddaagreat", sum := "180a932ae84616349f6955361f38b950d00feace334fb64126cf771eea12d811", func := "bookend/bookendlaw20.GrantsMany", spec := "grantsMany", unfollowed := true, recurses := true, apart := false }
def GrantsManySaid : Prop := grantsManyRow.holds Tryz.pinned (OpenSpec.ofChange grantsManySpec)

/-- ITS FALSE NEIGHBOUR: 'it returns false'. Refute it at one input. -/
def grantsManyWrong : ChangeSpec := { name := "grantsMany", fn := fun _ => fun
  | [d1, d2, d3] => { results := [.lit (.bool false)], args := [d1, d2, d3] }
  | _ => none }
def GrantsManyWrongFalsely : Prop := grantsManyRow.holds Tryz.pinned (OpenSpec.ofChange grantsManyWrong)

/-- 'bookendlaw19.PressureFinds': WHATEVER THE INPUT: true; the input reads as it did. -/
def pressureFindsSpec : ChangeSpec := { name := "pressureFinds", fn := fun _ => fun
  | [d1, d2] => { results := [.lit (.bool true)], args := [d1, d2] }
  | _ => none }
def pressureFindsRow : OpenClaim := { program := "ytfilfloanndddaagreat", sum := "180a932ae84616349f6955361f38b950d00feace334fb64126cf771eea12d811", func := "bookend/bookendlaw19.PressureFinds", spec := "pressureFinds", unfollowed := true, recurses := true, apart := false }
def PressureFindsSaid : Prop := pressureFindsRow.holds Tryz.pinned (OpenSpec.ofChange pressureFindsSpec)

/-- ITS FALSE NEIGHBOUR: 'it returns false'. Refute it at one input. -/
def pressureFindsWrong : ChangeSpec := { name := "pressureFinds", fn := fun _ => fun
  | [d1, d2] => { results := [.lit (.bool false)], args := [d1, d2] }
  | _ => none }
def PressureFindsWrongFalsely : Prop := pressureFindsRow.holds Tryz.pinned (OpenSpec.ofChange pressureFindsWrong)

/- THE SECOND FORM. 'bulk': how many values and letters a reading holds, each counted each time it is reached (what is shared counts as often as it is met; a slice's spare places count too). A statement '..UptoSaid' is the law's where the arguments, and the package variables that the reading takes, are together of bulk at most 1048576: NARROWER than '..Said'. Prove '..Said' where nothing that the law and all that it calls make is longer than what came in: it says more and counts as full. Else prove '..UptoSaid'. A law counts once. -/
mutual
def uptoBulk {H : Type} : DataW H → Nat
  | .lit (.string bytes) => bytes.length + 1
  | .lit _ => 1
  | .nil => 1
  | .ptr d => uptoBulk d + 1
  | .slice elems spare => uptoBulkAll elems + uptoBulkAll spare + 1
  | .agg parts => uptoBulkAll parts + 1
  | .iface _ d => uptoBulk d + 1
  | .map entries => uptoBulkEntries entries + 1
  | .held _ => 1
def uptoBulkAll {H : Type} : List (DataW H) → Nat
  | [] => 0
  | d :: r => uptoBulk d + uptoBulkAll r
def uptoBulkEntries {H : Type} : List (Lit × DataW H) → Nat
  | [] => 0
  | x :: r => uptoBulkEntry x + uptoBulkEntries r
def uptoBulkEntry {H : Type} : Lit × DataW H → Nat
  | (.string bytes, d) => bytes.length + uptoBulk d + 1
  | (_, d) => uptoBulk d + 1
 end
def uptoSmall : (H : Type) → List (DataW H) → Bool := fun _ ds => decide (uptoBulkAll ds ≤ 1048576)
def OpenSpec.upto (s : _root_.Go.ChangeSpec) : _root_.Go.OpenSpec := { _root_.Go.OpenSpec.ofChange s with cond := some uptoSmall }

/-- 'bookendlaw20.GrantsShares', WHERE WHAT IT READS IS OF BULK AT MOST 1048576: true; the input reads as it did. -/
def grantsSharesUptoRow : OpenClaim := { program := "ytfilfloanndddaagreat", sum := "180a932ae84616349f6955361f38b950d00feace334fb64126cf771eea12d811", func := "bookend/bookendlaw20.GrantsShares", spec := "grantsShares", unfollowed := true, recurses := true, apart := false, narrowed := true }
def GrantsSharesUptoSaid : Prop := grantsSharesUptoRow.holds Tryz.pinned (OpenSpec.upto grantsSharesSpec)

/-- 'bookendlaw20.GrantsNeeds', WHERE WHAT IT READS IS OF BULK AT MOST 1048576: true; the input reads as it did. -/
def grantsNeedsUptoRow : OpenClaim := { program := "ytfilfloanndddaagreat", sum := "180a932ae84616349f6955361f38b950d00feace334fb64126cf771eea12d811", func := "bookend/bookendlaw20.GrantsNeeds", spec := "grantsNeeds", unfollowed := true, recurses := true, apart := false, narrowed := true }
def GrantsNeedsUptoSaid : Prop := grantsNeedsUptoRow.holds Tryz.pinned (OpenSpec.upto grantsNeedsSpec)

/-- 'bookendlaw20.GrantsLowest', WHERE WHAT IT READS IS OF BULK AT MOST 1048576: true; the input reads as it did. -/
def grantsLowestUptoRow : OpenClaim := { program := "ytfilfloanndddaagreat", sum := "180a932ae84616349f6955361f38b950d00feace334fb64126cf771eea12d811", func := "bookend/bookendlaw20.GrantsLowest", spec := "grantsLowest", unfollowed := true, recurses := true, apart := false, narrowed := true }
def GrantsLowestUptoSaid : Prop := grantsLowestUptoRow.holds Tryz.pinned (OpenSpec.upto grantsLowestSpec)

/-- 'bookendlaw20.GrantsNeeded', WHERE WHAT IT READS IS OF BULK AT MOST 1048576: true; the input reads as it did. -/
def grantsNeededUptoRow : OpenClaim := { program := "ytfilfloanndddaagreat", sum := "180a932ae84616349f6955361f38b950d00feace334fb64126cf771eea12d811", func := "bookend/bookendlaw20.GrantsNeeded", spec := "grantsNeeded", unfollowed := true, recurses := true, apart := false, narrowed := true }
def GrantsNeededUptoSaid : Prop := grantsNeededUptoRow.holds Tryz.pinned (OpenSpec.upto grantsNeededSpec)

/-- 'bookendlaw20.GrantsOrders', WHERE WHAT IT READS IS OF BULK AT MOST 1048576: true; the input reads as it did. -/
def grantsOrdersUptoRow : OpenClaim := { program := "ytfilfloanndddaagreat", sum := "180a932ae84616349f6955361f38b950d00feace334fb64126cf771eea12d811", func := "bookend/bookendlaw20.GrantsOrders", spec := "grantsOrders", unfollowed := true, recurses := true, apart := false, narrowed := true }
def GrantsOrdersUptoSaid : Prop := grantsOrdersUptoRow.holds Tryz.pinned (OpenSpec.upto grantsOrdersSpec)

/-- 'bookendlaw20.GrantsKeeps', WHERE WHAT IT READS IS OF BULK AT MOST 1048576: true; the input reads as it did. -/
def grantsKeepsUptoRow : OpenClaim := { program := "ytfilfloanndddaagreat", sum := "180a932ae84616349f6955361f38b950d00feace334fb64126cf771eea12d811", func := "bookend/bookendlaw20.GrantsKeeps", spec := "grantsKeeps", unfollowed := true, recurses := true, apart := false, narrowed := true }
def GrantsKeepsUptoSaid : Prop := grantsKeepsUptoRow.holds Tryz.pinned (OpenSpec.upto grantsKeepsSpec)

/-- 'bookendlaw20.GrantsSplits', WHERE WHAT IT READS IS OF BULK AT MOST 1048576: true; the input reads as it did. -/
def grantsSplitsUptoRow : OpenClaim := { program := "ytfilfloanndddaagreat", sum := "180a932ae84616349f6955361f38b950d00feace334fb64126cf771eea12d811", func := "bookend/bookendlaw20.GrantsSplits", spec := "grantsSplits", unfollowed := true, recurses := true, apart := false, narrowed := true }
def GrantsSplitsUptoSaid : Prop := grantsSplitsUptoRow.holds Tryz.pinned (OpenSpec.upto grantsSplitsSpec)

/-- 'bookendlaw20.GrantsMany', WHERE WHAT IT READS IS OF BULK AT MOST 1048576: true; the input reads as it did. -/
def grantsManyUptoRow : OpenClaim := { program := "ytfilfloanndddaagreat", sum := "180a932ae84616349f6955361f38b950d00feace334fb64126cf771eea12d811", func := "bookend/bookendlaw20.GrantsMany", spec := "grantsMany", unfollowed := true, recurses := true, apart := false, narrowed := true }
def GrantsManyUptoSaid : Prop := grantsManyUptoRow.holds Tryz.pinned (OpenSpec.upto grantsManySpec)

/-- 'bookendlaw19.PressureFinds', WHERE WHAT IT READS IS OF BULK AT MOST 1048576: true; the input reads as it did. -/
def pressureFindsUptoRow : OpenClaim := { program := "ytfilfloanndddaagreat", sum := "180a932ae84616349f6955361f38b950d00feace334fb64126cf771eea12d811", func := "bookend/bookendlaw19.PressureFinds", spec := "pressureFinds", unfollowed := true, recurses := true, apart := false, narrowed := true }
def PressureFindsUptoSaid : Prop := pressureFindsUptoRow.holds Tryz.pinned (OpenSpec.upto pressureFindsSpec)

end Rows
end Go.Proofs.YtfilfloanndddaaGreat
