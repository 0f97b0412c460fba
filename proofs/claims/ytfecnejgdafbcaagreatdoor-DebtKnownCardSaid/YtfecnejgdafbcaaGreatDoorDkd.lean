/- debtKnown: a part of the proof that the law holds: closed facts on the row. No condition. -/
import Derived.Test.YtfecnejgdafbcaaGreatDoorDkc
namespace Go.Proofs.YtfecnejgdafbcaaGreatDoor.debtKnown
set_option maxRecDepth 1000000
theorem joined : joinedFacts Tryz.prog 3 Tryz.f3 Rows.debtKnownSpec Rows.debtKnownRow = true := by
  unfold joinedFacts
  rw [n1, n2, n3, n4, laid, rowed0]
  kernel_rfl
end Go.Proofs.YtfecnejgdafbcaaGreatDoor.debtKnown
