/- What the package-level variables hold that the law reads, and errors.As, errors.Is answered as a whole, by contracts. Conditions: the premises of each theorem. -/
import Derived.Test.YtoefnfbpoabinaaGreatDoorPk1
import Derived.Test.YtoefnfbpoabinaaGreatDoorPk2
import Derived.Test.YtoefnfbpoabinaaGreatDoorPk3
import Derived.Test.YtoefnfbpoabinaaGreatDoorPk4
import Derived.Test.YtoefnfbpoabinaaGreatDoorPk5
import Derived.Test.YtoefnfbpoabinaaGreatDoorPk6
import Derived.Test.YtoefnfbpoabinaaGreatDoorPk7
import Derived.Test.YtoefnfbpoabinaaGreatDoorPk8
set_option linter.all false
open Bool renaming true->zt
namespace Go.Proofs.YtoefnfbpoabinaaGreatDoor.Gk
open Go Pi Go.Proofs.YtoefnfbpoabinaaGreatDoor
theorem ok0:Mg Tryz.prog kl0:=U2 _
theorem ok1:Mg Tryz.prog kl1:=UV Gv.prim ok0 an0
theorem ok2:Mg Tryz.prog kl2:=UV Gv.prim ok1 an1
theorem ok3:Mg Tryz.prog kl3:=UV Gv.prim ok2 an2
theorem ok4:Mg Tryz.prog kl4:=UV Gv.prim ok3 an3
theorem ok5:Mg Tryz.prog kl5:=UV Gv.prim ok4 an4
theorem ok6:Mg Tryz.prog kl6:=UV Gv.prim ok5 an5
theorem ok7:Mg Tryz.prog kl7:=UV Gv.prim ok6 zs
theorem ok8:Mg Tryz.prog kl8:=UV Gv.prim ok7 an7
theorem ok9:Mg Tryz.prog kl9:=UV Gv.prim ok8 an8
theorem ABb:Mg Tryz.prog uz:=UV Gv.prim ok9 an9
theorem ABc:Mg Tryz.prog u3:=UV Gv.prim ABb ue
theorem ABd:Mg Tryz.prog u4:=UV Gv.prim ABc zG
theorem ABe:Mg Tryz.prog u5:=UV Gv.prim ABd uf
theorem ABf:Mg Tryz.prog u6:=UV Gv.prim ABe zH
theorem ABg:Mg Tryz.prog u7:=UV Gv.prim ABf zK
theorem ABh:Mg Tryz.prog u9:=UV Gv.prim ABg zL
theorem ABi:Mg Tryz.prog vA:=UV Gv.prim ABh zM
theorem ABj:Mg Tryz.prog vB:=UV Gv.prim ABi zN
theorem ABk:Mg Tryz.prog vC:=UV Gv.prim ABj zO
theorem ABl:Mg Tryz.prog vD:=UV Gv.prim ABk zQ
theorem ABm:Mg Tryz.prog vF:=UV Gv.prim ABl zR
theorem ABn:Mg Tryz.prog vG:=UV Gv.prim ABm ug
theorem ABo:Mg Tryz.prog vH:=UV Gv.prim ABn uh
theorem ABp:Mg Tryz.prog vI:=UV Gv.prim ABo zT
theorem ABq:Mg Tryz.prog vJ:=UV Gv.prim ABp zV
theorem ABr:Mg Tryz.prog vK:=UV Gv.prim ABq zW
theorem ABs:Mg Tryz.prog vM:=UV Gv.prim ABr ui
theorem ABt:Mg Tryz.prog vN:=UV Gv.prim ABs zX
theorem ABu:Mg Tryz.prog vO:=UV Gv.prim ABt uj
theorem ABv:Mg Tryz.prog vQ:=UV Gv.prim ABu uk
theorem ABw:Mg Tryz.prog vR:=UV Gv.prim ABv um
theorem ABx:Mg Tryz.prog vS:=UV Gv.prim ABw zY
theorem ABy:Mg Tryz.prog vT:=UV Gv.prim ABx zZ
theorem ABz:Mg Tryz.prog vU:=UV Gv.prim ABy un
theorem AB0:Mg Tryz.prog vV:=UV Gv.prim ABz za
theorem AB1:Mg Tryz.prog vW:=UV Gv.prim AB0 zd
theorem AB2:Mg Tryz.prog vX:=UV Gv.prim AB1 ze
theorem AB3:Mg Tryz.prog vY:=UV Gv.prim AB2 zg
theorem AB4:Mg Tryz.prog vZ:=UV Gv.prim AB3 zh
theorem AB5:Mg Tryz.prog xB:=UV Gv.prim AB4 zi
instance glK:Gl:=Lm Gv.gl 7 (.kn zt)
theorem prim : @CG glK Tryz.prog:=UX (G:=Gv.gl) Gv.prim AB5 ran
end Go.Proofs.YtoefnfbpoabinaaGreatDoor.Gk
