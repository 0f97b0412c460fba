/- grantsKnown: a part of the proof that the law holds: some answers, computed. No condition. -/
import Derived.Test.YtljcklmfjomanaaGreatGk0
namespace Go.Proofs.YtljcklmfjomanaaGreat.grantsKnown
open Go.Proofs.YtljcklmfjomanaaGreat.Pi
set_option maxRecDepth 1000000
theorem an7 : ansIs Tryz.prog shared 1000000 kl7 1000 kn7 = true := by kernel_rfl
theorem an8 : ansIs Tryz.prog shared 1000000 kl8 1000 kn8 = true := by kernel_rfl
theorem ran : ansIs Tryz.prog shared 1000000 kl9 1000 ⟨5, [], .bool true, ⟨.lf, 0⟩⟩ = true := by kernel_rfl
end Go.Proofs.YtljcklmfjomanaaGreat.grantsKnown
