/- What the package-level variables hold that the law reads, and errors.As, errors.Is answered as a whole, by contracts. Conditions: the premises of each theorem. -/
import Derived.Test.YtoefnfbpoabinaaGreatDoorPk0
set_option linter.all false
open Bool renaming true->zt
namespace Go.Proofs.YtoefnfbpoabinaaGreatDoor.Gk
open Go Pi Go.Proofs.YtoefnfbpoabinaaGreatDoor
set_option maxRecDepth 1000000
theorem ui:Nl Tryz.prog V5 1000000 vK 1000 xS=zt:=by kernel_rfl
theorem zX:Nl Tryz.prog V5 1000000 vM 1000 xU=zt:=by kernel_rfl
theorem uj:Nl Tryz.prog V5 1000000 vN 1000 xV=zt:=by kernel_rfl
theorem uk:Nl Tryz.prog V5 1000000 vO 1000 xW=zt:=by kernel_rfl
theorem um:Nl Tryz.prog V5 1000000 vQ 1000 xX=zt:=by kernel_rfl
end Go.Proofs.YtoefnfbpoabinaaGreatDoor.Gk
