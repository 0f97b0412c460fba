/- What the package-level variables hold that the law reads, and errors.As, errors.Is answered as a whole, by contracts. Conditions: the premises of each theorem. -/
import Derived.Test.YtoefnfbpoabinaaGreatDoorPk0
set_option linter.all false
open Bool renaming true->zt
namespace Go.Proofs.YtoefnfbpoabinaaGreatDoor.Gk
open Go Pi Go.Proofs.YtoefnfbpoabinaaGreatDoor
set_option maxRecDepth 1000000
theorem ug:NQ Tryz.prog Vg 1000000 vI 1000 xR=zt:=by kernel_rfl
theorem zW:NQ Tryz.prog Vg 1000000 vJ 1000 xS=zt:=by kernel_rfl
theorem uh:NQ Tryz.prog Vg 1000000 vK 1000 xU=zt:=by kernel_rfl
theorem ui:NQ Tryz.prog Vg 1000000 vM 1000 xV=zt:=by kernel_rfl
theorem uj:NQ Tryz.prog Vg 1000000 vN 1000 xW=zt:=by kernel_rfl
end Go.Proofs.YtoefnfbpoabinaaGreatDoor.Gk
