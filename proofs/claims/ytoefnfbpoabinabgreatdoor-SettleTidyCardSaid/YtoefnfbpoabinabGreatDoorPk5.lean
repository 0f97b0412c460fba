/- What the package-level variables hold that the law reads, and errors.As, errors.Is answered as a whole, by contracts. Conditions: the premises of each theorem. -/
import Derived.Test.YtoefnfbpoabinabGreatDoorPk0
set_option linter.all false
open Bool renaming true->zt
namespace Go.Proofs.YtoefnfbpoabinabGreatDoor.Gk
open Go Pi Go.Proofs.YtoefnfbpoabinabGreatDoor
set_option maxRecDepth 1000000
theorem ABh:NQ Tryz.prog Vd 1000000 xV 1000 AAF=zt:=by kernel_rfl
theorem ABi:NQ Tryz.prog Vd 1000000 xW 1000 AAG=zt:=by kernel_rfl
theorem ABj:NQ Tryz.prog Vd 1000000 xX 1000 AAH=zt:=by kernel_rfl
theorem ABk:NQ Tryz.prog Vd 1000000 xY 1000 AAI=zt:=by kernel_rfl
theorem wo:NQ Tryz.prog Vd 1000000 xc 1000 AAJ=zt:=by kernel_rfl
theorem wq:NQ Tryz.prog Vd 1000000 xd 1000 AAK=zt:=by kernel_rfl
theorem ABl:NQ Tryz.prog Vd 1000000 xe 1000 AAL=zt:=by kernel_rfl
end Go.Proofs.YtoefnfbpoabinabGreatDoor.Gk
