/- What the package-level variables hold that the law reads, and errors.As, errors.Is answered as a whole, by contracts. Conditions: the premises of each theorem. -/
import Derived.Test.YtoefnfbpoabinaaGreatDoorPk0
set_option linter.all false
open Bool renaming true->zt
namespace Go.Proofs.YtoefnfbpoabinaaGreatDoor.Gk
open Go Pi Go.Proofs.YtoefnfbpoabinaaGreatDoor
set_option maxRecDepth 1000000
theorem ue:NQ Tryz.prog Vg 1000000 vC 1000 xM=zt:=by kernel_rfl
theorem uf:NQ Tryz.prog Vg 1000000 vD 1000 xN=zt:=by kernel_rfl
theorem zR:NQ Tryz.prog Vg 1000000 vF 1000 xO=zt:=by kernel_rfl
theorem zT:NQ Tryz.prog Vg 1000000 vG 1000 xP=zt:=by kernel_rfl
theorem zV:NQ Tryz.prog Vg 1000000 vH 1000 xQ=zt:=by kernel_rfl
end Go.Proofs.YtoefnfbpoabinaaGreatDoor.Gk
