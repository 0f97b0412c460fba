/- settleKnown: a part of the proof that the law holds: some answers, computed. No condition. -/
import Derived.Test.YtfecnejgdafbcaaGreatDoorSk0
namespace Go.Proofs.YtfecnejgdafbcaaGreatDoor.settleKnown
open Go.Proofs.YtfecnejgdafbcaaGreatDoor.Pi
set_option maxRecDepth 1000000
theorem an0 : ansIs Tryz.prog shared 1000000 kl0 1000 kn0 = true := by kernel_rfl
theorem an1 : ansIs Tryz.prog shared 1000000 kl1 1000 kn1 = true := by kernel_rfl
theorem an2 : ansIs Tryz.prog shared 1000000 kl2 1000 kn2 = true := by kernel_rfl
theorem an3 : ansIs Tryz.prog shared 1000000 kl3 1000 kn3 = true := by kernel_rfl
theorem an4 : ansIs Tryz.prog shared 1000000 kl4 1000 kn4 = true := by kernel_rfl
theorem an5 : ansIs Tryz.prog shared 1000000 kl5 1000 kn5 = true := by kernel_rfl
theorem an6 : ansIs Tryz.prog shared 1000000 kl6 1000 kn6 = true := by kernel_rfl
end Go.Proofs.YtfecnejgdafbcaaGreatDoor.settleKnown
