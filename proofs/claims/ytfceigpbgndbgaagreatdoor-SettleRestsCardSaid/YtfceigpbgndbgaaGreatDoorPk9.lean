/- What the package-level variables hold that the law reads, and errors.As, errors.Is answered as a whole, by contracts. Conditions: the premises of each theorem. -/
import Derived.Test.YtfceigpbgndbgaaGreatDoorPk1
import Derived.Test.YtfceigpbgndbgaaGreatDoorPk2
import Derived.Test.YtfceigpbgndbgaaGreatDoorPk3
import Derived.Test.YtfceigpbgndbgaaGreatDoorPk4
set_option linter.all false
open Bool renaming true->zt
namespace Go.Proofs.YtfceigpbgndbgaaGreatDoor.Gk
open Go Pi Go.Proofs.YtfceigpbgndbgaaGreatDoor
theorem ok0:MI Tryz.prog kl0:=Tu _
theorem ok1:MI Tryz.prog kl1:=TH Gv.prim ok0 an0
theorem ok2:MI Tryz.prog kl2:=TH Gv.prim ok1 an1
theorem ok3:MI Tryz.prog kl3:=TH Gv.prim ok2 an2
theorem ok4:MI Tryz.prog kl4:=TH Gv.prim ok3 an3
theorem ok5:MI Tryz.prog kl5:=TH Gv.prim ok4 an4
theorem ok6:MI Tryz.prog kl6:=TH Gv.prim ok5 zw
theorem ok7:MI Tryz.prog kl7:=TH Gv.prim ok6 an6
theorem ok8:MI Tryz.prog kl8:=TH Gv.prim ok7 an7
theorem ok9:MI Tryz.prog kl9:=TH Gv.prim ok8 an8
theorem ABt:MI Tryz.prog ut:=TH Gv.prim ok9 an9
theorem ABu:MI Tryz.prog uu:=TH Gv.prim ABt zT
theorem ABv:MI Tryz.prog uv:=TH Gv.prim ABu zV
theorem ABw:MI Tryz.prog uw:=TH Gv.prim ABv zW
theorem ABx:MI Tryz.prog ux:=TH Gv.prim ABw ue
theorem ABy:MI Tryz.prog uy:=TH Gv.prim ABx uf
theorem ABz:MI Tryz.prog uz:=TH Gv.prim ABy ug
theorem AB0:MI Tryz.prog u3:=TH Gv.prim ABz zX
theorem AB1:MI Tryz.prog u4:=TH Gv.prim AB0 zY
theorem AB2:MI Tryz.prog u5:=TH Gv.prim AB1 zZ
theorem AB3:MI Tryz.prog u6:=TH Gv.prim AB2 za
theorem AB4:MI Tryz.prog u7:=TH Gv.prim AB3 zd
theorem AB5:MI Tryz.prog u9:=TH Gv.prim AB4 ze
theorem AB6:MI Tryz.prog vA:=TH Gv.prim AB5 zg
theorem AB7:MI Tryz.prog vB:=TH Gv.prim AB6 zh
theorem AB8:MI Tryz.prog vC:=TH Gv.prim AB7 zi
theorem AB9:MI Tryz.prog vD:=TH Gv.prim AB8 uh
theorem ACA:MI Tryz.prog vF:=TH Gv.prim AB9 zk
theorem ACB:MI Tryz.prog vG:=TH Gv.prim ACA zl
theorem ACC:MI Tryz.prog vH:=TH Gv.prim ACB ui
theorem ACD:MI Tryz.prog w9:=TH Gv.prim ACC uj
instance glK:Gl:=Pd Gv.gl 6 zt
theorem prim : @Eg glK Tryz.prog:=TJ (G:=Gv.gl) Gv.prim ACD ran
end Go.Proofs.YtfceigpbgndbgaaGreatDoor.Gk
