/- grantsKnown: a part of the proof that the law holds: some answers, computed. No condition. -/
import Derived.Test.YtljcklmfjomanaaGreatGk0
namespace Go.Proofs.YtljcklmfjomanaaGreat.grantsKnown
open Go.Proofs.YtljcklmfjomanaaGreat.Pi
set_option maxRecDepth 1000000
theorem an4 : ansIs Tryz.prog shared 1000000 kl4 1000 kn4 = true := by kernel_rfl
theorem an5 : ansIs Tryz.prog shared 1000000 kl5 1000 kn5 = true := by kernel_rfl
theorem an6 : ansIs Tryz.prog shared 1000000 kl6 1000 kn6 = true := by kernel_rfl
end Go.Proofs.YtljcklmfjomanaaGreat.grantsKnown
