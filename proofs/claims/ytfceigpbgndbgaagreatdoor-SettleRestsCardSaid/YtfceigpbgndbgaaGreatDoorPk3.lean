/- What the package-level variables hold that the law reads, and errors.As, errors.Is answered as a whole, by contracts. Conditions: the premises of each theorem. -/
import Derived.Test.YtfceigpbgndbgaaGreatDoorPk0
set_option linter.all false
open Bool renaming true->zt
namespace Go.Proofs.YtfceigpbgndbgaaGreatDoor.Gk
open Go Pi Go.Proofs.YtfceigpbgndbgaaGreatDoor
set_option maxRecDepth 1000000
theorem zX:NL Tryz.prog VX 1000000 uz 1000 xG=zt:=by kernel_rfl
theorem zY:NL Tryz.prog VX 1000000 u3 1000 xH=zt:=by kernel_rfl
theorem zZ:NL Tryz.prog VX 1000000 u4 1000 xI=zt:=by kernel_rfl
theorem za:NL Tryz.prog VX 1000000 u5 1000 xJ=zt:=by kernel_rfl
theorem zd:NL Tryz.prog VX 1000000 u6 1000 xK=zt:=by kernel_rfl
theorem ze:NL Tryz.prog VX 1000000 u7 1000 xL=zt:=by kernel_rfl
theorem zg:NL Tryz.prog VX 1000000 u9 1000 xM=zt:=by kernel_rfl
theorem zh:NL Tryz.prog VX 1000000 vA 1000 xN=zt:=by kernel_rfl
end Go.Proofs.YtfceigpbgndbgaaGreatDoor.Gk
