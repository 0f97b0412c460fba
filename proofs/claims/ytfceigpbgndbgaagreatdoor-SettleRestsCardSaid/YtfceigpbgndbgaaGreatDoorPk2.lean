/- What the package-level variables hold that the law reads, and errors.As, errors.Is answered as a whole, by contracts. Conditions: the premises of each theorem. -/
import Derived.Test.YtfceigpbgndbgaaGreatDoorPk0
set_option linter.all false
open Bool renaming true->zt
namespace Go.Proofs.YtfceigpbgndbgaaGreatDoor.Gk
open Go Pi Go.Proofs.YtfceigpbgndbgaaGreatDoor
set_option maxRecDepth 1000000
theorem an8:NL Tryz.prog VX 1000000 kl8 1000 kn8=zt:=by kernel_rfl
theorem an9:NL Tryz.prog VX 1000000 kl9 1000 kn9=zt:=by kernel_rfl
theorem zT:NL Tryz.prog VX 1000000 ut 1000 xA=zt:=by kernel_rfl
theorem zV:NL Tryz.prog VX 1000000 uu 1000 xB=zt:=by kernel_rfl
theorem zW:NL Tryz.prog VX 1000000 uv 1000 xC=zt:=by kernel_rfl
theorem ue:NL Tryz.prog VX 1000000 uw 1000 xD=zt:=by kernel_rfl
theorem uf:NL Tryz.prog VX 1000000 ux 1000 xE=zt:=by kernel_rfl
theorem ug:NL Tryz.prog VX 1000000 uy 1000 xF=zt:=by kernel_rfl
end Go.Proofs.YtfceigpbgndbgaaGreatDoor.Gk
