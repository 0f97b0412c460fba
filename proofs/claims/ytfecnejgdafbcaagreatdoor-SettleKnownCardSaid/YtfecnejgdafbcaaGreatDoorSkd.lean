/- settleKnown: a part of the proof that the law holds: closed facts on the row. No condition. -/
import Derived.Test.YtfecnejgdafbcaaGreatDoorSkc
namespace Go.Proofs.YtfecnejgdafbcaaGreatDoor.settleKnown
set_option maxRecDepth 1000000
theorem joined : joinedFacts Tryz.prog 5 Tryz.f5 Rows.settleKnownSpec Rows.settleKnownRow = true := by
  unfold joinedFacts
  rw [n1, n2, n3, n4, laid, rowed0]
  kernel_rfl
end Go.Proofs.YtfecnejgdafbcaaGreatDoor.settleKnown
