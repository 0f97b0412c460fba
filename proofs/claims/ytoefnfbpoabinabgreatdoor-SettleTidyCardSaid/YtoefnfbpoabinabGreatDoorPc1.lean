/- What the package-level variables hold that the law reads, and errors.As, errors.Is answered as a whole, by contracts. Conditions: the premises of each theorem. -/
import Derived.Test.YtoefnfbpoabinabGreatDoorPk9
import Derived.Test.YtoefnfbpoabinabGreatDoorPc0
import Derived.Test.YtoefnfbpoabinabGreatDoorLy
set_option linter.all false
open Option renaming none->zn
open Bool renaming true->zt, false->zf
namespace Go.Proofs.YtoefnfbpoabinabGreatDoor.Gs
open Go Pi Go.Proofs Go.Proofs.YtoefnfbpoabinabGreatDoor
set_option maxRecDepth 1000000
instance glS:Gl:=Og Gk.glK 47 (.srt 48 (.pair .str (.pair .str (.pair .bool (.int .i64)))) Sv.Rr Sv.Ss)
def sn(_:FuncId):Bool:=zf
theorem n1 : @lz Gk.glK (@B5 Gk.glK Tryz.prog sn 3000 60 (.fn 47) zn [.nils,.fn (.func 48) [] []] { m:=.lf,nx:=0 })=zt:=by kernel_rfl
theorem n2 : @lz Gk.glK (@B5 Gk.glK Tryz.prog sn 3000 60 (.fn 47) zn [.lst zf [],.fn (.func 48) [] []] { m:=.lf,nx:=0 })=zt:=by kernel_rfl
theorem prim : @Cz glS Tryz.prog:=oc (G:=Gk.glK) Gk.prim Srtp.l (λw=>Tryz.isAgg54 w) (λw=>Tryz.sizeOf54 w) (V:=λx=>Sv.Ur x=zt) ⟨([],[],zt,1),rfl⟩ Pl.uL Pl.uM (enters_of Tryz.func48 (by kernel_rfl) rfl) (λx y a b w=>Pu.calls3 a b w) Pl.lq n1 n2
end Go.Proofs.YtoefnfbpoabinabGreatDoor.Gs
