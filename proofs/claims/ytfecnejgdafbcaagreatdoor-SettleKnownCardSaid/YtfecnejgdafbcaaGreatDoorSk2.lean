/- settleKnown: a part of the proof that the law holds: some answers, computed. No condition. -/
import Derived.Test.YtfecnejgdafbcaaGreatDoorSk0
namespace Go.Proofs.YtfecnejgdafbcaaGreatDoor.settleKnown
open Go.Proofs.YtfecnejgdafbcaaGreatDoor.Pi
set_option maxRecDepth 1000000
theorem an7 : ansIs Tryz.prog shared 1000000 kl7 1000 kn7 = true := by kernel_rfl
theorem an8 : ansIs Tryz.prog shared 1000000 kl8 1000 kn8 = true := by kernel_rfl
theorem an9 : ansIs Tryz.prog shared 1000000 kl9 1000 kn9 = true := by kernel_rfl
theorem an10 : ansIs Tryz.prog shared 1000000 kl10 1000 kn10 = true := by kernel_rfl
theorem an11 : ansIs Tryz.prog shared 1000000 kl11 1000 kn11 = true := by kernel_rfl
theorem an12 : ansIs Tryz.prog shared 1000000 kl12 1000 kn12 = true := by kernel_rfl
theorem an13 : ansIs Tryz.prog shared 1000000 kl13 1000 kn13 = true := by kernel_rfl
end Go.Proofs.YtfecnejgdafbcaaGreatDoor.settleKnown
