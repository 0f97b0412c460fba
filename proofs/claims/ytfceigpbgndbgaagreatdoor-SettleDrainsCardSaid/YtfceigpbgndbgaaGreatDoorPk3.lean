/- What the package-level variables hold that the law reads, and errors.As, errors.Is answered as a whole, by contracts. Conditions: the premises of each theorem. -/
import Derived.Test.YtfceigpbgndbgaaGreatDoorPk0
set_option linter.all false
open Bool renaming true->zt
namespace Go.Proofs.YtfceigpbgndbgaaGreatDoor.Gk
open Go Pi Go.Proofs.YtfceigpbgndbgaaGreatDoor
set_option maxRecDepth 1000000
theorem ABF:NL Tryz.prog Ve 1000000 w7 1000 zW=zt:=by kernel_rfl
theorem ABG:NL Tryz.prog Ve 1000000 w8 1000 zX=zt:=by kernel_rfl
theorem ABH:NL Tryz.prog Ve 1000000 w9 1000 zY=zt:=by kernel_rfl
theorem ABI:NL Tryz.prog Ve 1000000 xA 1000 zZ=zt:=by kernel_rfl
theorem ABJ:NL Tryz.prog Ve 1000000 xB 1000 za=zt:=by kernel_rfl
theorem ABK:NL Tryz.prog Ve 1000000 xC 1000 zd=zt:=by kernel_rfl
theorem ABL:NL Tryz.prog Ve 1000000 xD 1000 ze=zt:=by kernel_rfl
theorem ABM:NL Tryz.prog Ve 1000000 xE 1000 zg=zt:=by kernel_rfl
end Go.Proofs.YtfceigpbgndbgaaGreatDoor.Gk
