/- What the package-level variables hold that the law reads, and errors.As, errors.Is answered as a whole, by contracts. Conditions: the premises of each theorem. -/
import Derived.Test.YtfceigpbgndbgaaGreatDoorPk0
set_option linter.all false
open Bool renaming true->zt
namespace Go.Proofs.YtfceigpbgndbgaaGreatDoor.Gk
open Go Pi Go.Proofs.YtfceigpbgndbgaaGreatDoor
set_option maxRecDepth 1000000
theorem an0:NL Tryz.prog VX 1000000 kl0 1000 kn0=zt:=by kernel_rfl
theorem an1:NL Tryz.prog VX 1000000 kl1 1000 kn1=zt:=by kernel_rfl
theorem an2:NL Tryz.prog VX 1000000 kl2 1000 kn2=zt:=by kernel_rfl
theorem an3:NL Tryz.prog VX 1000000 kl3 1000 kn3=zt:=by kernel_rfl
theorem an4:NL Tryz.prog VX 1000000 kl4 1000 kn4=zt:=by kernel_rfl
theorem zw:NL Tryz.prog VX 1000000 kl5 1000 kn5=zt:=by kernel_rfl
theorem an6:NL Tryz.prog VX 1000000 kl6 1000 kn6=zt:=by kernel_rfl
theorem an7:NL Tryz.prog VX 1000000 kl7 1000 kn7=zt:=by kernel_rfl
end Go.Proofs.YtfceigpbgndbgaaGreatDoor.Gk
