/- What the package-level variables hold that the law reads, and errors.As, errors.Is answered as a whole, by contracts. Conditions: the premises of each theorem. -/
import Derived.Test.YtfceigpbgndbgaaGreatDoorPk0
set_option linter.all false
open Bool renaming true->zt
namespace Go.Proofs.YtfceigpbgndbgaaGreatDoor.Gk
open Go Pi Go.Proofs.YtfceigpbgndbgaaGreatDoor
set_option maxRecDepth 1000000
theorem an8:NL Tryz.prog Ve 1000000 kl8 1000 kn8=zt:=by kernel_rfl
theorem an9:NL Tryz.prog Ve 1000000 kl9 1000 kn9=zt:=by kernel_rfl
theorem ABA:NL Tryz.prog Ve 1000000 wv 1000 zN=zt:=by kernel_rfl
theorem ABB:NL Tryz.prog Ve 1000000 ww 1000 zO=zt:=by kernel_rfl
theorem ABC:NL Tryz.prog Ve 1000000 wx 1000 zQ=zt:=by kernel_rfl
theorem ABD:NL Tryz.prog Ve 1000000 wy 1000 zR=zt:=by kernel_rfl
theorem ABE:NL Tryz.prog Ve 1000000 wz 1000 zT=zt:=by kernel_rfl
theorem we:NL Tryz.prog Ve 1000000 w6 1000 zV=zt:=by kernel_rfl
end Go.Proofs.YtfceigpbgndbgaaGreatDoor.Gk
