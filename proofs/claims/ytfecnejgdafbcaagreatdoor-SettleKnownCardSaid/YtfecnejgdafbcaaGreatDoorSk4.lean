/- settleKnown: a part of the proof that the law holds: some answers, computed. No condition. -/
import Derived.Test.YtfecnejgdafbcaaGreatDoorSk0
namespace Go.Proofs.YtfecnejgdafbcaaGreatDoor.settleKnown
open Go.Proofs.YtfecnejgdafbcaaGreatDoor.Pi
set_option maxRecDepth 1000000
theorem an21 : ansIs Tryz.prog shared 1000000 kl21 1000 kn21 = true := by kernel_rfl
theorem an22 : ansIs Tryz.prog shared 1000000 kl22 1000 kn22 = true := by kernel_rfl
theorem an23 : ansIs Tryz.prog shared 1000000 kl23 1000 kn23 = true := by kernel_rfl
theorem an24 : ansIs Tryz.prog shared 1000000 kl24 1000 kn24 = true := by kernel_rfl
theorem an25 : ansIs Tryz.prog shared 1000000 kl25 1000 kn25 = true := by kernel_rfl
theorem ran : ansIs Tryz.prog shared 1000000 kl26 1000 ⟨5, [], .bool true, ⟨.lf, 0⟩⟩ = true := by kernel_rfl
end Go.Proofs.YtfecnejgdafbcaaGreatDoor.settleKnown
