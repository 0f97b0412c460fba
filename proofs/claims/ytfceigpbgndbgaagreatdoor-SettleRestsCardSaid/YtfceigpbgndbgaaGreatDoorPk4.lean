/- What the package-level variables hold that the law reads, and errors.As, errors.Is answered as a whole, by contracts. Conditions: the premises of each theorem. -/
import Derived.Test.YtfceigpbgndbgaaGreatDoorPk0
set_option linter.all false
open Bool renaming true->zt
namespace Go.Proofs.YtfceigpbgndbgaaGreatDoor.Gk
open Go Pi Go.Proofs.YtfceigpbgndbgaaGreatDoor
set_option maxRecDepth 1000000
theorem zi:NL Tryz.prog VX 1000000 vB 1000 xO=zt:=by kernel_rfl
theorem uh:NL Tryz.prog VX 1000000 vC 1000 xP=zt:=by kernel_rfl
theorem zk:NL Tryz.prog VX 1000000 vD 1000 xQ=zt:=by kernel_rfl
theorem zl:NL Tryz.prog VX 1000000 vF 1000 xR=zt:=by kernel_rfl
theorem ui:NL Tryz.prog VX 1000000 vG 1000 xS=zt:=by kernel_rfl
theorem uj:NL Tryz.prog VX 1000000 vH 1000 xU=zt:=by kernel_rfl
theorem ran:NL Tryz.prog VX 1000000 w9 1000 ⟨6,[],.bool zt,⟨.lf,0⟩⟩=zt:=by kernel_rfl
end Go.Proofs.YtfceigpbgndbgaaGreatDoor.Gk
