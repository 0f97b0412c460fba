/- The evaluator comes to each of the plain functions. No condition. -/
import Derived.Test.YtoefnfbpoabinabGreatDoorPj4
import Derived.Test.YtoefnfbpoabinabGreatDoorPj2
set_option linter.all false
open Bool renaming true->zt
namespace Go.Proofs.YtoefnfbpoabinabGreatDoor.Pt
open Go Sv Pl Go.Proofs Go.Proofs.YtoefnfbpoabinabGreatDoor
open Go.ChangeShapes Go.WideShapes Go.ChangeAt Go.RowKit
set_option maxRecDepth 100000
theorem o2':joinedFacts Tryz.prog 4 Tryz.f4 Rows.settleTidySpec Rows.settleTidyRow=zt:=by
 unfold joinedFacts;rw[n1,n2,n3,n4,laid,oW]
 kernel_rfl
end Go.Proofs.YtoefnfbpoabinabGreatDoor.Pt
