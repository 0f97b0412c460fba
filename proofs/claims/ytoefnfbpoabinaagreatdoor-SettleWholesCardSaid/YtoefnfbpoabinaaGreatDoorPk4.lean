/- What the package-level variables hold that the law reads, and errors.As, errors.Is answered as a whole, by contracts. Conditions: the premises of each theorem. -/
import Derived.Test.YtoefnfbpoabinaaGreatDoorPk0
set_option linter.all false
open Bool renaming true->zt
namespace Go.Proofs.YtoefnfbpoabinaaGreatDoor.Gk
open Go Pi Go.Proofs.YtoefnfbpoabinaaGreatDoor
set_option maxRecDepth 1000000
theorem zL:NQ Tryz.prog Vg 1000000 u6 1000 xH=zt:=by kernel_rfl
theorem zM:NQ Tryz.prog Vg 1000000 u7 1000 xI=zt:=by kernel_rfl
theorem zN:NQ Tryz.prog Vg 1000000 u9 1000 xJ=zt:=by kernel_rfl
theorem zO:NQ Tryz.prog Vg 1000000 vA 1000 xK=zt:=by kernel_rfl
theorem zQ:NQ Tryz.prog Vg 1000000 vB 1000 xL=zt:=by kernel_rfl
end Go.Proofs.YtoefnfbpoabinaaGreatDoor.Gk
