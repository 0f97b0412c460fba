/- What the package-level variables hold that the law reads, and errors.As, errors.Is answered as a whole, by contracts. Conditions: the premises of each theorem. -/
import Derived.Test.YtoefnfbpoabinaaGreatDoorPk0
set_option linter.all false
open Bool renaming true->zt
namespace Go.Proofs.YtoefnfbpoabinaaGreatDoor.Gk
open Go Pi Go.Proofs.YtoefnfbpoabinaaGreatDoor
set_option maxRecDepth 1000000
theorem an0:NQ Tryz.prog Vg 1000000 kl0 1000 kn0=zt:=by kernel_rfl
theorem an1:NQ Tryz.prog Vg 1000000 kl1 1000 kn1=zt:=by kernel_rfl
theorem an2:NQ Tryz.prog Vg 1000000 kl2 1000 kn2=zt:=by kernel_rfl
theorem an3:NQ Tryz.prog Vg 1000000 kl3 1000 kn3=zt:=by kernel_rfl
theorem an4:NQ Tryz.prog Vg 1000000 kl4 1000 kn4=zt:=by kernel_rfl
theorem an5:NQ Tryz.prog Vg 1000000 kl5 1000 kn5=zt:=by kernel_rfl
end Go.Proofs.YtoefnfbpoabinaaGreatDoor.Gk
