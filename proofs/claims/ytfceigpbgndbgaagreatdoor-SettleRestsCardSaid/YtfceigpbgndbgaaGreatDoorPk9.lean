/- What the package-level variables hold that the law reads, and errors.As, errors.Is answered as a whole, by contracts. Conditions: the premises of each theorem. -/
import Derived.Test.YtfceigpbgndbgaaGreatDoorPk1
import Derived.Test.YtfceigpbgndbgaaGreatDoorPk2
import Derived.Test.YtfceigpbgndbgaaGreatDoorPk3
import Derived.Test.YtfceigpbgndbgaaGreatDoorPk4
set_option linter.all false
open Bool renaming true->zt
namespace Go.Proofs.YtfceigpbgndbgaaGreatDoor.Gk
open Go Pi Go.Proofs.YtfceigpbgndbgaaGreatDoor
theorem ok0:MI Tryz.prog kl0:=Tu _
theorem ok1:MI Tryz.prog kl1:=TH Gv.prim ok0 an0
theorem ok2:MI Tryz.prog kl2:=TH Gv.prim ok1 an1
theorem ok3:MI Tryz.prog kl3:=TH Gv.prim ok2 an2
theorem ok4:MI Tryz.prog kl4:=TH Gv.prim ok3 an3
theorem ok5:MI Tryz.prog kl5:=TH Gv.prim ok4 an4
theorem ok6:MI Tryz.prog kl6:=TH Gv.prim ok5 zo
theorem ok7:MI Tryz.prog kl7:=TH Gv.prim ok6 an6
theorem ok8:MI Tryz.prog kl8:=TH Gv.prim ok7 an7
theorem ok9:MI Tryz.prog kl9:=TH Gv.prim ok8 an8
theorem ABl:MI Tryz.prog ut:=TH Gv.prim ok9 an9
theorem ABm:MI Tryz.prog uu:=TH Gv.prim ABl zT
theorem ABn:MI Tryz.prog uv:=TH Gv.prim ABm zV
theorem ABo:MI Tryz.prog uw:=TH Gv.prim ABn zW
theorem ABp:MI Tryz.prog ux:=TH Gv.prim ABo ue
theorem ABq:MI Tryz.prog uy:=TH Gv.prim ABp uf
theorem ABr:MI Tryz.prog uz:=TH Gv.prim ABq ug
theorem ABs:MI Tryz.prog u3:=TH Gv.prim ABr zX
theorem ABt:MI Tryz.prog u4:=TH Gv.prim ABs zY
theorem ABu:MI Tryz.prog u5:=TH Gv.prim ABt zZ
theorem ABv:MI Tryz.prog u6:=TH Gv.prim ABu za
theorem ABw:MI Tryz.prog u7:=TH Gv.prim ABv zb
theorem ABx:MI Tryz.prog u9:=TH Gv.prim ABw zd
theorem ABy:MI Tryz.prog vA:=TH Gv.prim ABx ze
theorem ABz:MI Tryz.prog vB:=TH Gv.prim ABy zf
theorem AB0:MI Tryz.prog vC:=TH Gv.prim ABz zg
theorem AB1:MI Tryz.prog vD:=TH Gv.prim AB0 uh
theorem AB2:MI Tryz.prog vF:=TH Gv.prim AB1 zh
theorem AB3:MI Tryz.prog vG:=TH Gv.prim AB2 zi
theorem AB4:MI Tryz.prog vH:=TH Gv.prim AB3 ui
theorem AB5:MI Tryz.prog w9:=TH Gv.prim AB4 uj
instance glK:Gl:=Pd Gv.gl 6 zt
theorem prim : @Eg glK Tryz.prog:=TJ (G:=Gv.gl) Gv.prim AB5 ran
end Go.Proofs.YtfceigpbgndbgaaGreatDoor.Gk
