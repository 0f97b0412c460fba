/- What the package-level variables hold that the law reads, and errors.As, errors.Is answered as a whole, by contracts. Conditions: the premises of each theorem. -/
import Derived.Test.YtoefnfbpoabinabGreatDoorPk0
set_option linter.all false
open Bool renaming true->zt
namespace Go.Proofs.YtoefnfbpoabinabGreatDoor.Gk
open Go Pi Go.Proofs.YtoefnfbpoabinabGreatDoor
set_option maxRecDepth 1000000
theorem ABp:NQ Tryz.prog Vd 1000000 xq 1000 AAS=zt:=by kernel_rfl
theorem ABq:NQ Tryz.prog Vd 1000000 xu 1000 AAT=zt:=by kernel_rfl
theorem ABr:NQ Tryz.prog Vd 1000000 xy 1000 AAU=zt:=by kernel_rfl
theorem ABs:NQ Tryz.prog Vd 1000000 xz 1000 AAV=zt:=by kernel_rfl
theorem ww:NQ Tryz.prog Vd 1000000 yA 1000 AAW=zt:=by kernel_rfl
theorem ABt:NQ Tryz.prog Vd 1000000 yB 1000 AAX=zt:=by kernel_rfl
theorem ABu:NQ Tryz.prog Vd 1000000 yC 1000 AAY=zt:=by kernel_rfl
end Go.Proofs.YtoefnfbpoabinabGreatDoor.Gk
