/- pressureKnown: a part of the proof that the law holds: some answers, computed. No condition. -/
import Derived.Test.YtljcklmfjomanaaGreatPk0
namespace Go.Proofs.YtljcklmfjomanaaGreat.pressureKnown
open Go.Proofs.YtljcklmfjomanaaGreat.Pi
set_option maxRecDepth 1000000
theorem an0 : ansIs Tryz.prog shared 1000000 kl0 1000 kn0 = true := by kernel_rfl
theorem ran : ansIs Tryz.prog shared 1000000 kl1 1000 ⟨4, [], .bool true, ⟨.lf, 0⟩⟩ = true := by kernel_rfl
end Go.Proofs.YtljcklmfjomanaaGreat.pressureKnown
