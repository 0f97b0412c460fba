/- settleKnown: a part of the proof that the law holds: some answers, computed. No condition. -/
import Derived.Test.YtfecnejgdafbcaaGreatDoorSk0
namespace Go.Proofs.YtfecnejgdafbcaaGreatDoor.settleKnown
open Go.Proofs.YtfecnejgdafbcaaGreatDoor.Pi
set_option maxRecDepth 1000000
theorem an14 : ansIs Tryz.prog shared 1000000 kl14 1000 kn14 = true := by kernel_rfl
theorem an15 : ansIs Tryz.prog shared 1000000 kl15 1000 kn15 = true := by kernel_rfl
theorem an16 : ansIs Tryz.prog shared 1000000 kl16 1000 kn16 = true := by kernel_rfl
theorem an17 : ansIs Tryz.prog shared 1000000 kl17 1000 kn17 = true := by kernel_rfl
theorem an18 : ansIs Tryz.prog shared 1000000 kl18 1000 kn18 = true := by kernel_rfl
theorem an19 : ansIs Tryz.prog shared 1000000 kl19 1000 kn19 = true := by kernel_rfl
theorem an20 : ansIs Tryz.prog shared 1000000 kl20 1000 kn20 = true := by kernel_rfl
end Go.Proofs.YtfecnejgdafbcaaGreatDoor.settleKnown
