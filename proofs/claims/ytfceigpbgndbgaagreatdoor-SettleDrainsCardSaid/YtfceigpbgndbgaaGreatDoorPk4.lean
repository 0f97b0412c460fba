/- What the package-level variables hold that the law reads, and errors.As, errors.Is answered as a whole, by contracts. Conditions: the premises of each theorem. -/
import Derived.Test.YtfceigpbgndbgaaGreatDoorPk0
set_option linter.all false
open Bool renaming true->zt
namespace Go.Proofs.YtfceigpbgndbgaaGreatDoor.Gk
open Go Pi Go.Proofs.YtfceigpbgndbgaaGreatDoor
set_option maxRecDepth 1000000
theorem ABN:NL Tryz.prog Ve 1000000 xF 1000 zh=zt:=by kernel_rfl
theorem wg:NL Tryz.prog Ve 1000000 xG 1000 zi=zt:=by kernel_rfl
theorem ABO:NL Tryz.prog Ve 1000000 xH 1000 zk=zt:=by kernel_rfl
theorem ABP:NL Tryz.prog Ve 1000000 xI 1000 zl=zt:=by kernel_rfl
theorem wh:NL Tryz.prog Ve 1000000 xJ 1000 zm=zt:=by kernel_rfl
theorem wi:NL Tryz.prog Ve 1000000 xK 1000 zp=zt:=by kernel_rfl
theorem ran:NL Tryz.prog Ve 1000000 zM 1000 ⟨6,[],.bool zt,⟨.lf,0⟩⟩=zt:=by kernel_rfl
end Go.Proofs.YtfceigpbgndbgaaGreatDoor.Gk
