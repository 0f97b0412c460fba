/- What the package-level variables hold that the law reads, and errors.As, errors.Is answered as a whole, by contracts. Conditions: the premises of each theorem. -/
import Derived.Test.YtoefnfbpoabinaaGreatDoorPk0
set_option linter.all false
open Bool renaming true->zt
namespace Go.Proofs.YtoefnfbpoabinaaGreatDoor.Gk
open Go Pi Go.Proofs.YtoefnfbpoabinaaGreatDoor
set_option maxRecDepth 1000000
theorem zD:NQ Tryz.prog Vg 1000000 uy 1000 xC=zt:=by kernel_rfl
theorem ud:NQ Tryz.prog Vg 1000000 uz 1000 xD=zt:=by kernel_rfl
theorem zG:NQ Tryz.prog Vg 1000000 u3 1000 xE=zt:=by kernel_rfl
theorem zH:NQ Tryz.prog Vg 1000000 u4 1000 xF=zt:=by kernel_rfl
theorem zK:NQ Tryz.prog Vg 1000000 u5 1000 xG=zt:=by kernel_rfl
end Go.Proofs.YtoefnfbpoabinaaGreatDoor.Gk
