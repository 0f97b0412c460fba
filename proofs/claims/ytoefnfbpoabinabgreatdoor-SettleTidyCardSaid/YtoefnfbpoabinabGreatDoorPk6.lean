/- What the package-level variables hold that the law reads, and errors.As, errors.Is answered as a whole, by contracts. Conditions: the premises of each theorem. -/
import Derived.Test.YtoefnfbpoabinabGreatDoorPk0
set_option linter.all false
open Bool renaming true->zt
namespace Go.Proofs.YtoefnfbpoabinabGreatDoor.Gk
open Go Pi Go.Proofs.YtoefnfbpoabinabGreatDoor
set_option maxRecDepth 1000000
theorem ABm:NQ Tryz.prog Vd 1000000 xf 1000 AAM=zt:=by kernel_rfl
theorem wt:NQ Tryz.prog Vd 1000000 xg 1000 AAN=zt:=by kernel_rfl
theorem ABn:NQ Tryz.prog Vd 1000000 xh 1000 AAO=zt:=by kernel_rfl
theorem wu:NQ Tryz.prog Vd 1000000 xi 1000 AAP=zt:=by kernel_rfl
theorem wv:NQ Tryz.prog Vd 1000000 xj 1000 AAQ=zt:=by kernel_rfl
theorem ABo:NQ Tryz.prog Vd 1000000 xp 1000 AAR=zt:=by kernel_rfl
end Go.Proofs.YtoefnfbpoabinabGreatDoor.Gk
