/- pressureKnown: a part of the proof that the law holds: answers of calls at known arguments. No condition. -/
import Derived.Test.YtljcklmfjomanaaGreatPiZK
import Derived.Test.YtljcklmfjomanaaGreatRows
namespace Go.Proofs.YtljcklmfjomanaaGreat.pressureKnown
open Go.Proofs.YtljcklmfjomanaaGreat.Pi
def shared (g : Nat) : Bool := [141, 143, 138, 154, 95, 94, 139, 140, 126, 133, 48].any (Nat.beq g)
def kn0 : Kn := ⟨7, [], .bool true, ⟨.lf, 0⟩⟩
def kl0 : List Kn := []
def kl1 : List Kn := kn0 :: kl0
end Go.Proofs.YtljcklmfjomanaaGreat.pressureKnown
