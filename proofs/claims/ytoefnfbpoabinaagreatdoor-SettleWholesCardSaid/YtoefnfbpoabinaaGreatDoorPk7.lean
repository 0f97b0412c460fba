/- What the package-level variables hold that the law reads, and errors.As, errors.Is answered as a whole, by contracts. Conditions: the premises of each theorem. -/
import Derived.Test.YtoefnfbpoabinaaGreatDoorPk0
set_option linter.all false
open Bool renaming true->zt
namespace Go.Proofs.YtoefnfbpoabinaaGreatDoor.Gk
open Go Pi Go.Proofs.YtoefnfbpoabinaaGreatDoor
set_option maxRecDepth 1000000
theorem zX:NQ Tryz.prog Vg 1000000 vO 1000 xX=zt:=by kernel_rfl
theorem zY:NQ Tryz.prog Vg 1000000 vQ 1000 xY=zt:=by kernel_rfl
theorem uk:NQ Tryz.prog Vg 1000000 vR 1000 xc=zt:=by kernel_rfl
theorem zZ:NQ Tryz.prog Vg 1000000 vS 1000 xd=zt:=by kernel_rfl
theorem za:NQ Tryz.prog Vg 1000000 vT 1000 xe=zt:=by kernel_rfl
end Go.Proofs.YtoefnfbpoabinaaGreatDoor.Gk
