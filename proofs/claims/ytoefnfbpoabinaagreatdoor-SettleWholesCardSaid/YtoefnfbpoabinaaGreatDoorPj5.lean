/- The evaluator comes to each of the plain functions. No condition. -/
import Derived.Test.YtoefnfbpoabinaaGreatDoorPj4
import Derived.Test.YtoefnfbpoabinaaGreatDoorPj2
set_option linter.all false
open Bool renaming true->zt
namespace Go.Proofs.YtoefnfbpoabinaaGreatDoor.Pt
open Go Sv Pl Go.Proofs Go.Proofs.YtoefnfbpoabinaaGreatDoor
open Go.ChangeShapes Go.WideShapes Go.ChangeAt Go.RowKit
set_option maxRecDepth 100000
theorem o2':joinedFacts Tryz.prog 3 Tryz.f3 Rows.settleWholesSpec Rows.settleWholesRow=zt:=by
 unfold joinedFacts;rw[n1,n2,n3,n4,laid,l9]
 kernel_rfl
end Go.Proofs.YtoefnfbpoabinaaGreatDoor.Pt
