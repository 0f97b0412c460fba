/- What the package-level variables hold that the law reads, and errors.As, errors.Is answered as a whole, by contracts. Conditions: the premises of each theorem. -/
import Derived.Test.YtoefnfbpoabinabGreatDoorPk1
import Derived.Test.YtoefnfbpoabinabGreatDoorPk2
import Derived.Test.YtoefnfbpoabinabGreatDoorPk3
import Derived.Test.YtoefnfbpoabinabGreatDoorPk4
import Derived.Test.YtoefnfbpoabinabGreatDoorPk5
import Derived.Test.YtoefnfbpoabinabGreatDoorPk6
import Derived.Test.YtoefnfbpoabinabGreatDoorPk7
import Derived.Test.YtoefnfbpoabinabGreatDoorPk8
set_option linter.all false
open Bool renaming true->zt
namespace Go.Proofs.YtoefnfbpoabinabGreatDoor.Gk
open Go Pi Go.Proofs.YtoefnfbpoabinabGreatDoor
theorem ok0:MN Tryz.prog kl0:=Uc _
theorem ok1:MN Tryz.prog kl1:=Ts Gv.prim ok0 an0
theorem ok2:MN Tryz.prog kl2:=Ts Gv.prim ok1 an1
theorem ok3:MN Tryz.prog kl3:=Ts Gv.prim ok2 an2
theorem ok4:MN Tryz.prog kl4:=Ts Gv.prim ok3 an3
theorem ok5:MN Tryz.prog kl5:=Ts Gv.prim ok4 an4
theorem ok6:MN Tryz.prog kl6:=Ts Gv.prim ok5 an5
theorem ok7:MN Tryz.prog kl7:=Ts Gv.prim ok6 an6
theorem ok8:MN Tryz.prog kl8:=Ts Gv.prim ok7 an7
theorem ok9:MN Tryz.prog kl9:=Ts Gv.prim ok8 an8
theorem ADT:MN Tryz.prog xE:=Ts Gv.prim ok9 an9
theorem ADU:MN Tryz.prog xF:=Ts Gv.prim ADT ABW
theorem ADV:MN Tryz.prog xG:=Ts Gv.prim ADU ABX
theorem ADW:MN Tryz.prog xH:=Ts Gv.prim ADV wg
theorem ADX:MN Tryz.prog xI:=Ts Gv.prim ADW ABY
theorem ADY:MN Tryz.prog xJ:=Ts Gv.prim ADX wh
theorem ADZ:MN Tryz.prog xK:=Ts Gv.prim ADY wi
theorem ADa:MN Tryz.prog xL:=Ts Gv.prim ADZ ABZ
theorem ADb:MN Tryz.prog xM:=Ts Gv.prim ADa ABa
theorem ADc:MN Tryz.prog xN:=Ts Gv.prim ADb wj
theorem ADd:MN Tryz.prog xO:=Ts Gv.prim ADc ABb
theorem ADe:MN Tryz.prog xP:=Ts Gv.prim ADd ABc
theorem ADf:MN Tryz.prog xQ:=Ts Gv.prim ADe ABd
theorem ADg:MN Tryz.prog xR:=Ts Gv.prim ADf wm
theorem ADh:MN Tryz.prog xS:=Ts Gv.prim ADg ABe
theorem ADi:MN Tryz.prog xU:=Ts Gv.prim ADh ABf
theorem ADj:MN Tryz.prog xV:=Ts Gv.prim ADi ABg
theorem ADk:MN Tryz.prog xW:=Ts Gv.prim ADj ABh
theorem ADl:MN Tryz.prog xX:=Ts Gv.prim ADk ABi
theorem ADm:MN Tryz.prog xY:=Ts Gv.prim ADl ABj
theorem ADn:MN Tryz.prog xc:=Ts Gv.prim ADm ABk
theorem ADo:MN Tryz.prog xd:=Ts Gv.prim ADn wo
theorem ADp:MN Tryz.prog xe:=Ts Gv.prim ADo wq
theorem ADq:MN Tryz.prog xf:=Ts Gv.prim ADp ABl
theorem ADr:MN Tryz.prog xg:=Ts Gv.prim ADq ABm
theorem ADs:MN Tryz.prog xh:=Ts Gv.prim ADr wt
theorem ADt:MN Tryz.prog xi:=Ts Gv.prim ADs ABn
theorem ADu:MN Tryz.prog xj:=Ts Gv.prim ADt wu
theorem ADv:MN Tryz.prog xp:=Ts Gv.prim ADu wv
theorem ADw:MN Tryz.prog xq:=Ts Gv.prim ADv ABo
theorem ADx:MN Tryz.prog xu:=Ts Gv.prim ADw ABp
theorem ADy:MN Tryz.prog xy:=Ts Gv.prim ADx ABq
theorem ADz:MN Tryz.prog xz:=Ts Gv.prim ADy ABr
theorem AD0:MN Tryz.prog yA:=Ts Gv.prim ADz ABs
theorem AD1:MN Tryz.prog yB:=Ts Gv.prim AD0 ww
theorem AD2:MN Tryz.prog yC:=Ts Gv.prim AD1 ABt
theorem AD3:MN Tryz.prog yD:=Ts Gv.prim AD2 ABu
theorem AD4:MN Tryz.prog yE:=Ts Gv.prim AD3 ABv
theorem AD5:MN Tryz.prog yF:=Ts Gv.prim AD4 ABw
theorem AD6:MN Tryz.prog yG:=Ts Gv.prim AD5 ABx
theorem AD7:MN Tryz.prog yH:=Ts Gv.prim AD6 ABy
theorem AD8:MN Tryz.prog zi:=Ts Gv.prim AD7 ABz
instance glK:Gl:=Og Gv.gl 6 (.kn zt)
theorem prim : @Cz glK Tryz.prog:=Tv (G:=Gv.gl) Gv.prim AD8 ran
end Go.Proofs.YtoefnfbpoabinabGreatDoor.Gk
