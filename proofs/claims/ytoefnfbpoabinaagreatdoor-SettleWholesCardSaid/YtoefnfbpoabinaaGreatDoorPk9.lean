/- What the package-level variables hold that the law reads, and errors.As, errors.Is answered as a whole, by contracts. Conditions: the premises of each theorem. -/
import Derived.Test.YtoefnfbpoabinaaGreatDoorPk1
import Derived.Test.YtoefnfbpoabinaaGreatDoorPk2
import Derived.Test.YtoefnfbpoabinaaGreatDoorPk3
import Derived.Test.YtoefnfbpoabinaaGreatDoorPk4
import Derived.Test.YtoefnfbpoabinaaGreatDoorPk5
import Derived.Test.YtoefnfbpoabinaaGreatDoorPk6
import Derived.Test.YtoefnfbpoabinaaGreatDoorPk7
import Derived.Test.YtoefnfbpoabinaaGreatDoorPk8
set_option linter.all false
open Bool renaming true->zt
namespace Go.Proofs.YtoefnfbpoabinaaGreatDoor.Gk
open Go Pi Go.Proofs.YtoefnfbpoabinaaGreatDoor
theorem ok0:MN Tryz.prog kl0:=Uc _
theorem ok1:MN Tryz.prog kl1:=Ts Gv.prim ok0 an0
theorem ok2:MN Tryz.prog kl2:=Ts Gv.prim ok1 an1
theorem ok3:MN Tryz.prog kl3:=Ts Gv.prim ok2 an2
theorem ok4:MN Tryz.prog kl4:=Ts Gv.prim ok3 an3
theorem ok5:MN Tryz.prog kl5:=Ts Gv.prim ok4 an4
theorem ok6:MN Tryz.prog kl6:=Ts Gv.prim ok5 an5
theorem ok7:MN Tryz.prog kl7:=Ts Gv.prim ok6 zq
theorem ok8:MN Tryz.prog kl8:=Ts Gv.prim ok7 an7
theorem ok9:MN Tryz.prog kl9:=Ts Gv.prim ok8 an8
theorem ABa:MN Tryz.prog ux:=Ts Gv.prim ok9 an9
theorem ABb:MN Tryz.prog uy:=Ts Gv.prim ABa uc
theorem ABc:MN Tryz.prog uz:=Ts Gv.prim ABb zD
theorem ABd:MN Tryz.prog u3:=Ts Gv.prim ABc ud
theorem ABe:MN Tryz.prog u4:=Ts Gv.prim ABd zG
theorem ABf:MN Tryz.prog u5:=Ts Gv.prim ABe zH
theorem ABg:MN Tryz.prog u6:=Ts Gv.prim ABf zK
theorem ABh:MN Tryz.prog u7:=Ts Gv.prim ABg zL
theorem ABi:MN Tryz.prog u9:=Ts Gv.prim ABh zM
theorem ABj:MN Tryz.prog vA:=Ts Gv.prim ABi zN
theorem ABk:MN Tryz.prog vB:=Ts Gv.prim ABj zO
theorem ABl:MN Tryz.prog vC:=Ts Gv.prim ABk zQ
theorem ABm:MN Tryz.prog vD:=Ts Gv.prim ABl ue
theorem ABn:MN Tryz.prog vF:=Ts Gv.prim ABm uf
theorem ABo:MN Tryz.prog vG:=Ts Gv.prim ABn zR
theorem ABp:MN Tryz.prog vH:=Ts Gv.prim ABo zT
theorem ABq:MN Tryz.prog vI:=Ts Gv.prim ABp zV
theorem ABr:MN Tryz.prog vJ:=Ts Gv.prim ABq ug
theorem ABs:MN Tryz.prog vK:=Ts Gv.prim ABr zW
theorem ABt:MN Tryz.prog vM:=Ts Gv.prim ABs uh
theorem ABu:MN Tryz.prog vN:=Ts Gv.prim ABt ui
theorem ABv:MN Tryz.prog vO:=Ts Gv.prim ABu uj
theorem ABw:MN Tryz.prog vQ:=Ts Gv.prim ABv zX
theorem ABx:MN Tryz.prog vR:=Ts Gv.prim ABw zY
theorem ABy:MN Tryz.prog vS:=Ts Gv.prim ABx uk
theorem ABz:MN Tryz.prog vT:=Ts Gv.prim ABy zZ
theorem AB0:MN Tryz.prog vU:=Ts Gv.prim ABz za
theorem AB1:MN Tryz.prog vV:=Ts Gv.prim AB0 zd
theorem AB2:MN Tryz.prog vW:=Ts Gv.prim AB1 ze
theorem AB3:MN Tryz.prog vX:=Ts Gv.prim AB2 zg
theorem AB4:MN Tryz.prog xA:=Ts Gv.prim AB3 zh
instance glK:Gl:=Og Gv.gl 7 (.kn zt)
theorem prim : @Cz glK Tryz.prog:=Tv (G:=Gv.gl) Gv.prim AB4 ran
end Go.Proofs.YtoefnfbpoabinaaGreatDoor.Gk
