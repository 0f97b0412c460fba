/- grantsKnown: a part of the proof that the law holds: some answers, computed. No condition. -/
import Derived.Test.YtljcklmfjomanaaGreatGk0
namespace Go.Proofs.YtljcklmfjomanaaGreat.grantsKnown
open Go.Proofs.YtljcklmfjomanaaGreat.Pi
set_option maxRecDepth 1000000
theorem an0 : ansIs Tryz.prog shared 1000000 kl0 1000 kn0 = true := by kernel_rfl
theorem an1 : ansIs Tryz.prog shared 1000000 kl1 1000 kn1 = true := by kernel_rfl
theorem an2 : ansIs Tryz.prog shared 1000000 kl2 1000 kn2 = true := by kernel_rfl
theorem an3 : ansIs Tryz.prog shared 1000000 kl3 1000 kn3 = true := by kernel_rfl
end Go.Proofs.YtljcklmfjomanaaGreat.grantsKnown
