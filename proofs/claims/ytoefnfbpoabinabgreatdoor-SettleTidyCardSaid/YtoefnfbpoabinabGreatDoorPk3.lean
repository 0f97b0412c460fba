/- What the package-level variables hold that the law reads, and errors.As, errors.Is answered as a whole, by contracts. Conditions: the premises of each theorem. -/
import Derived.Test.YtoefnfbpoabinabGreatDoorPk0
set_option linter.all false
open Bool renaming true->zt
namespace Go.Proofs.YtoefnfbpoabinabGreatDoor.Gk
open Go Pi Go.Proofs.YtoefnfbpoabinabGreatDoor
set_option maxRecDepth 1000000
theorem ABY:NQ Tryz.prog Vd 1000000 xH 1000 zp=zt:=by kernel_rfl
theorem wh:NQ Tryz.prog Vd 1000000 xI 1000 zq=zt:=by kernel_rfl
theorem wi:NQ Tryz.prog Vd 1000000 xJ 1000 zs=zt:=by kernel_rfl
theorem ABZ:NQ Tryz.prog Vd 1000000 xK 1000 zu=zt:=by kernel_rfl
theorem ABa:NQ Tryz.prog Vd 1000000 xL 1000 zw=zt:=by kernel_rfl
theorem wj:NQ Tryz.prog Vd 1000000 xM 1000 zz=zt:=by kernel_rfl
theorem ABb:NQ Tryz.prog Vd 1000000 xN 1000 z8=zt:=by kernel_rfl
end Go.Proofs.YtoefnfbpoabinabGreatDoor.Gk
