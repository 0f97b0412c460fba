/- What the package-level variables hold that the law reads, and errors.As, errors.Is answered as a whole, by contracts. Conditions: the premises of each theorem. -/
import Derived.Test.YtoefnfbpoabinabGreatDoorPk0
set_option linter.all false
open Bool renaming true->zt
namespace Go.Proofs.YtoefnfbpoabinabGreatDoor.Gk
open Go Pi Go.Proofs.YtoefnfbpoabinabGreatDoor
set_option maxRecDepth 1000000
theorem ABv:NQ Tryz.prog Vd 1000000 yD 1000 AAZ=zt:=by kernel_rfl
theorem ABw:NQ Tryz.prog Vd 1000000 yE 1000 AAa=zt:=by kernel_rfl
theorem ABx:NQ Tryz.prog Vd 1000000 yF 1000 AAb=zt:=by kernel_rfl
theorem ABy:NQ Tryz.prog Vd 1000000 yG 1000 AAc=zt:=by kernel_rfl
theorem ABz:NQ Tryz.prog Vd 1000000 yH 1000 AAd=zt:=by kernel_rfl
theorem ran:NQ Tryz.prog Vd 1000000 zi 1000 ⟨6,[],.bool zt,⟨.lf,0⟩⟩=zt:=by kernel_rfl
end Go.Proofs.YtoefnfbpoabinabGreatDoor.Gk
