/- What the package-level variables hold that the law reads, and errors.As, errors.Is answered as a whole, by contracts. Conditions: the premises of each theorem. -/
import Derived.Test.YtoefnfbpoabinaaGreatDoorPk0
set_option linter.all false
open Bool renaming true->zt
namespace Go.Proofs.YtoefnfbpoabinaaGreatDoor.Gk
open Go Pi Go.Proofs.YtoefnfbpoabinaaGreatDoor
set_option maxRecDepth 1000000
theorem zd:NQ Tryz.prog Vg 1000000 vU 1000 xf=zt:=by kernel_rfl
theorem ze:NQ Tryz.prog Vg 1000000 vV 1000 xg=zt:=by kernel_rfl
theorem zg:NQ Tryz.prog Vg 1000000 vW 1000 xh=zt:=by kernel_rfl
theorem zh:NQ Tryz.prog Vg 1000000 vX 1000 xi=zt:=by kernel_rfl
theorem ran:NQ Tryz.prog Vg 1000000 xA 1000 ⟨7,[],.bool zt,⟨.lf,0⟩⟩=zt:=by kernel_rfl
end Go.Proofs.YtoefnfbpoabinaaGreatDoor.Gk
