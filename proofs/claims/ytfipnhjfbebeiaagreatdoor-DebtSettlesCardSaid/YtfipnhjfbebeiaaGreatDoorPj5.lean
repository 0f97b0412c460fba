/- The evaluator comes to each of the plain functions. No condition. -/
import Derived.Test.YtfipnhjfbebeiaaGreatDoorPj4
import Derived.Test.YtfipnhjfbebeiaaGreatDoorPj2
set_option linter.all false
namespace Go.Proofs.YtfipnhjfbebeiaaGreatDoor.Pt
open Go Sv Pl Go.Proofs Go.Proofs.YtfipnhjfbebeiaaGreatDoor
open Go.ChangeShapes Go.WideShapes Go.ChangeAt Go.RowKit
set_option maxRecDepth 100000
theorem o2':joinedFacts Tryz.prog 4 Tryz.f4 Rows.debtSettlesSpec Rows.debtSettlesRow=true:=by
 unfold joinedFacts;rw [n1,n2,n3,n4,laid,kK]
 kernel_rfl
end Go.Proofs.YtfipnhjfbebeiaaGreatDoor.Pt
