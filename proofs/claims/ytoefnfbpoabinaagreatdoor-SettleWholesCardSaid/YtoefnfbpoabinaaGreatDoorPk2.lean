/- What the package-level variables hold that the law reads, and errors.As, errors.Is answered as a whole, by contracts. Conditions: the premises of each theorem. -/
import Derived.Test.YtoefnfbpoabinaaGreatDoorPk0
set_option linter.all false
open Bool renaming true->zt
namespace Go.Proofs.YtoefnfbpoabinaaGreatDoor.Gk
open Go Pi Go.Proofs.YtoefnfbpoabinaaGreatDoor
set_option maxRecDepth 1000000
theorem zq:NQ Tryz.prog Vg 1000000 kl6 1000 kn6=zt:=by kernel_rfl
theorem an7:NQ Tryz.prog Vg 1000000 kl7 1000 kn7=zt:=by kernel_rfl
theorem an8:NQ Tryz.prog Vg 1000000 kl8 1000 kn8=zt:=by kernel_rfl
theorem an9:NQ Tryz.prog Vg 1000000 kl9 1000 kn9=zt:=by kernel_rfl
theorem uc:NQ Tryz.prog Vg 1000000 ux 1000 xB=zt:=by kernel_rfl
end Go.Proofs.YtoefnfbpoabinaaGreatDoor.Gk
