/- The evaluator comes to each of the plain functions. No condition. -/
import Derived.Test.YtfipnhjfbebeiabGreatDoorPj4
import Derived.Test.YtfipnhjfbebeiabGreatDoorPj2
set_option linter.all false
namespace Go.Proofs.YtfipnhjfbebeiabGreatDoor.Pt
open Go Sv Pl Go.Proofs Go.Proofs.YtfipnhjfbebeiabGreatDoor
open Go.ChangeShapes Go.WideShapes Go.ChangeAt Go.RowKit
set_option maxRecDepth 100000
theorem o2':joinedFacts Tryz.prog 4 Tryz.f4 Rows.boundsDebtSpec Rows.boundsDebtRow=true:=by
 unfold joinedFacts;rw [n1,n2,n3,n4,laid,kW]
 kernel_rfl
end Go.Proofs.YtfipnhjfbebeiabGreatDoor.Pt
