/- What the package-level variables hold that the law reads, and errors.As, errors.Is answered as a whole, by contracts. Conditions: the premises of each theorem. -/
import Derived.Test.YtoefnfbpoabinaaGreatDoorPk9
import Derived.Test.YtoefnfbpoabinaaGreatDoorPc0
import Derived.Test.YtoefnfbpoabinaaGreatDoorLy
set_option linter.all false
open Option renaming none->zn
open Bool renaming true->zt, false->zf
namespace Go.Proofs.YtoefnfbpoabinaaGreatDoor.Gs
open Go Pi Go.Proofs Go.Proofs.YtoefnfbpoabinaaGreatDoor
set_option maxRecDepth 1000000
instance glS:Gl:=Og Gk.glK 54 (.srt 55 (.pair .str (.pair .str (.pair .bool (.int .i64)))) Sv.Rr Sv.Ss)
def sn(_:FuncId):Bool:=zf
theorem n1 : @jh Gk.glK (@B5 Gk.glK Tryz.prog sn 3000 60 (.fn 54) zn [.nils,.fn (.func 55) [] []] { m:=.lf,nx:=0 })=zt:=by kernel_rfl
theorem n2 : @jh Gk.glK (@B5 Gk.glK Tryz.prog sn 3000 60 (.fn 54) zn [.lst zf [],.fn (.func 55) [] []] { m:=.lf,nx:=0 })=zt:=by kernel_rfl
theorem prim : @Cz glS Tryz.prog:=mF (G:=Gk.glK) Gk.prim Srtp.l (λw=>Tryz.isAgg51 w) (λw=>Tryz.sizeOf51 w) (V:=λx=>Sv.Ur x=zt) ⟨([],[],zt,1),rfl⟩ Pl.rC Pl.rD (enters_of Tryz.func55 (by kernel_rfl) rfl) (λx y a b w=>Pu.calls3 a b w) Pl.jc n1 n2
end Go.Proofs.YtoefnfbpoabinaaGreatDoor.Gs
