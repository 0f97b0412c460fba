/- What the package-level variables hold that the law reads, and errors.As, errors.Is answered as a whole, by contracts. Conditions: the premises of each theorem. -/
import Derived.Test.YtoefnfbpoabinabGreatDoorPk0
set_option linter.all false
open Bool renaming true->zt
namespace Go.Proofs.YtoefnfbpoabinabGreatDoor.Gk
open Go Pi Go.Proofs.YtoefnfbpoabinabGreatDoor
set_option maxRecDepth 1000000
theorem ABc:NQ Tryz.prog Vd 1000000 xO 1000 z9=zt:=by kernel_rfl
theorem ABd:NQ Tryz.prog Vd 1000000 xP 1000 AAA=zt:=by kernel_rfl
theorem wm:NQ Tryz.prog Vd 1000000 xQ 1000 AAB=zt:=by kernel_rfl
theorem ABe:NQ Tryz.prog Vd 1000000 xR 1000 AAC=zt:=by kernel_rfl
theorem ABf:NQ Tryz.prog Vd 1000000 xS 1000 AAD=zt:=by kernel_rfl
theorem ABg:NQ Tryz.prog Vd 1000000 xU 1000 AAE=zt:=by kernel_rfl
end Go.Proofs.YtoefnfbpoabinabGreatDoor.Gk
