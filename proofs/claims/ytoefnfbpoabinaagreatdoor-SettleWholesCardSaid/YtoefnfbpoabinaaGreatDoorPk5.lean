/- What the package-level variables hold that the law reads, and errors.As, errors.Is answered as a whole, by contracts. Conditions: the premises of each theorem. -/
import Derived.Test.YtoefnfbpoabinaaGreatDoorPk0
set_option linter.all false
open Bool renaming true->zt
namespace Go.Proofs.YtoefnfbpoabinaaGreatDoor.Gk
open Go Pi Go.Proofs.YtoefnfbpoabinaaGreatDoor
set_option maxRecDepth 1000000
theorem ug:Nl Tryz.prog V5 1000000 vF 1000 xN=zt:=by kernel_rfl
theorem uh:Nl Tryz.prog V5 1000000 vG 1000 xO=zt:=by kernel_rfl
theorem zT:Nl Tryz.prog V5 1000000 vH 1000 xP=zt:=by kernel_rfl
theorem zV:Nl Tryz.prog V5 1000000 vI 1000 xQ=zt:=by kernel_rfl
theorem zW:Nl Tryz.prog V5 1000000 vJ 1000 xR=zt:=by kernel_rfl
end Go.Proofs.YtoefnfbpoabinaaGreatDoor.Gk
