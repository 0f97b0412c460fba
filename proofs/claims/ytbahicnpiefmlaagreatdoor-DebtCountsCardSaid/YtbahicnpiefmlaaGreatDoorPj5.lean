/- The evaluator comes to each of the plain functions. No condition. -/
import Derived.Test.YtbahicnpiefmlaaGreatDoorPj4
import Derived.Test.YtbahicnpiefmlaaGreatDoorPj2
set_option linter.all false
namespace Go.Proofs.YtbahicnpiefmlaaGreatDoor.Pt
open Go Sv Pl Go.Proofs Go.Proofs.YtbahicnpiefmlaaGreatDoor
open Go.ChangeShapes Go.WideShapes Go.ChangeAt Go.RowKit
set_option maxRecDepth 100000
theorem yg:joinedFacts Tryz.prog 3 Tryz.f3 Rows.debtCountsSpec Rows.debtCountsRow=true:=by
 unfold joinedFacts;rw [n1,n2,n3,n4,laid,ik]
 kernel_rfl
end Go.Proofs.YtbahicnpiefmlaaGreatDoor.Pt
