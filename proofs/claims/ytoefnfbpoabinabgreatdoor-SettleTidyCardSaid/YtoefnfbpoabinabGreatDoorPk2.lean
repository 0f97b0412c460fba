/- What the package-level variables hold that the law reads, and errors.As, errors.Is answered as a whole, by contracts. Conditions: the premises of each theorem. -/
import Derived.Test.YtoefnfbpoabinabGreatDoorPk0
set_option linter.all false
open Bool renaming true->zt
namespace Go.Proofs.YtoefnfbpoabinabGreatDoor.Gk
open Go Pi Go.Proofs.YtoefnfbpoabinabGreatDoor
set_option maxRecDepth 1000000
theorem an7:NQ Tryz.prog Vd 1000000 kl7 1000 kn7=zt:=by kernel_rfl
theorem an8:NQ Tryz.prog Vd 1000000 kl8 1000 kn8=zt:=by kernel_rfl
theorem an9:NQ Tryz.prog Vd 1000000 kl9 1000 kn9=zt:=by kernel_rfl
theorem ABW:NQ Tryz.prog Vd 1000000 xE 1000 zk=zt:=by kernel_rfl
theorem ABX:NQ Tryz.prog Vd 1000000 xF 1000 zl=zt:=by kernel_rfl
theorem wg:NQ Tryz.prog Vd 1000000 xG 1000 zm=zt:=by kernel_rfl
end Go.Proofs.YtoefnfbpoabinabGreatDoor.Gk
