/- What the package-level variables hold that the law reads, and errors.As, errors.Is answered as a whole, by contracts. Conditions: the premises of each theorem. -/
import Derived.Test.YtfceigpbgndbgaaGreatDoorPk1
import Derived.Test.YtfceigpbgndbgaaGreatDoorPk2
import Derived.Test.YtfceigpbgndbgaaGreatDoorPk3
import Derived.Test.YtfceigpbgndbgaaGreatDoorPk4
set_option linter.all false
open Bool renaming true->zt
namespace Go.Proofs.YtfceigpbgndbgaaGreatDoor.Gk
open Go Pi Go.Proofs.YtfceigpbgndbgaaGreatDoor
theorem ok0:MI Tryz.prog kl0:=Tu _
theorem ok1:MI Tryz.prog kl1:=TH Gv.prim ok0 an0
theorem ok2:MI Tryz.prog kl2:=TH Gv.prim ok1 an1
theorem ok3:MI Tryz.prog kl3:=TH Gv.prim ok2 an2
theorem ok4:MI Tryz.prog kl4:=TH Gv.prim ok3 an3
theorem ok5:MI Tryz.prog kl5:=TH Gv.prim ok4 an4
theorem ok6:MI Tryz.prog kl6:=TH Gv.prim ok5 an5
theorem ok7:MI Tryz.prog kl7:=TH Gv.prim ok6 an6
theorem ok8:MI Tryz.prog kl8:=TH Gv.prim ok7 an7
theorem ok9:MI Tryz.prog kl9:=TH Gv.prim ok8 an8
theorem ADQ:MI Tryz.prog wv:=TH Gv.prim ok9 an9
theorem ADR:MI Tryz.prog ww:=TH Gv.prim ADQ AA2
theorem ADS:MI Tryz.prog wx:=TH Gv.prim ADR AA3
theorem ADT:MI Tryz.prog wy:=TH Gv.prim ADS AA4
theorem ADU:MI Tryz.prog wz:=TH Gv.prim ADT AA5
theorem ADV:MI Tryz.prog w6:=TH Gv.prim ADU AA6
theorem ADW:MI Tryz.prog w7:=TH Gv.prim ADV we
theorem ADX:MI Tryz.prog w8:=TH Gv.prim ADW AA7
theorem ADY:MI Tryz.prog w9:=TH Gv.prim ADX AA8
theorem ADZ:MI Tryz.prog xA:=TH Gv.prim ADY AA9
theorem ADa:MI Tryz.prog xB:=TH Gv.prim ADZ ABA
theorem ADb:MI Tryz.prog xC:=TH Gv.prim ADa ABB
theorem ADc:MI Tryz.prog xD:=TH Gv.prim ADb ABC
theorem ADd:MI Tryz.prog xE:=TH Gv.prim ADc ABD
theorem ADe:MI Tryz.prog xF:=TH Gv.prim ADd ABE
theorem ADf:MI Tryz.prog xG:=TH Gv.prim ADe ABF
theorem ADg:MI Tryz.prog xH:=TH Gv.prim ADf wg
theorem ADh:MI Tryz.prog xI:=TH Gv.prim ADg ABG
theorem ADi:MI Tryz.prog xJ:=TH Gv.prim ADh ABH
theorem ADj:MI Tryz.prog xK:=TH Gv.prim ADi wh
theorem ADk:MI Tryz.prog zM:=TH Gv.prim ADj wi
instance glK:Gl:=Pd Gv.gl 6 zt
theorem prim : @Eg glK Tryz.prog:=TJ (G:=Gv.gl) Gv.prim ADk ran
end Go.Proofs.YtfceigpbgndbgaaGreatDoor.Gk
