/- The evaluator comes to each of the plain functions. No condition. -/
import Derived.Test.YtfipnhjfbebeiabGreatDoorPj4
import Derived.Test.YtfipnhjfbebeiabGreatDoorPj2
set_option linter.all false
namespace Go.Proofs.YtfipnhjfbebeiabGreatDoor.Pt
open Go Sv Pl Go.Proofs Go.Proofs.YtfipnhjfbebeiabGreatDoor
open Go.ChangeShapes Go.WideShapes Go.ChangeAt Go.RowKit
set_option maxRecDepth 100000
theorem o2':joinedFacts Tryz.prog 3 Tryz.f3 Rows.debtFallsSpec Rows.debtFallsRow=true:=by
 unfold joinedFacts;rw [n1,n2,n3,n4,laid,kS]
 kernel_rfl
end Go.Proofs.YtfipnhjfbebeiabGreatDoor.Pt
