/- What the package-level variables hold that the law reads, and errors.As, errors.Is answered as a whole, by contracts. Conditions: the premises of each theorem. -/
import Derived.Test.YtfceigpbgndbgaaGreatDoorPk1
import Derived.Test.YtfceigpbgndbgaaGreatDoorPk2
import Derived.Test.YtfceigpbgndbgaaGreatDoorPk3
import Derived.Test.YtfceigpbgndbgaaGreatDoorPk4
set_option linter.all false
open Bool renaming true->zt
namespace Go.Proofs.YtfceigpbgndbgaaGreatDoor.Gk
open Go Pi Go.Proofs.YtfceigpbgndbgaaGreatDoor
theorem ok0:MI Tryz.prog kl0:=Tu _
theorem ok1:MI Tryz.prog kl1:=TH Gv.prim ok0 an0
theorem ok2:MI Tryz.prog kl2:=TH Gv.prim ok1 an1
theorem ok3:MI Tryz.prog kl3:=TH Gv.prim ok2 an2
theorem ok4:MI Tryz.prog kl4:=TH Gv.prim ok3 an3
theorem ok5:MI Tryz.prog kl5:=TH Gv.prim ok4 an4
theorem ok6:MI Tryz.prog kl6:=TH Gv.prim ok5 an5
theorem ok7:MI Tryz.prog kl7:=TH Gv.prim ok6 an6
theorem ok8:MI Tryz.prog kl8:=TH Gv.prim ok7 an7
theorem ok9:MI Tryz.prog kl9:=TH Gv.prim ok8 an8
theorem ADY:MI Tryz.prog wv:=TH Gv.prim ok9 an9
theorem ADZ:MI Tryz.prog ww:=TH Gv.prim ADY ABA
theorem ADa:MI Tryz.prog wx:=TH Gv.prim ADZ ABB
theorem ADb:MI Tryz.prog wy:=TH Gv.prim ADa ABC
theorem ADc:MI Tryz.prog wz:=TH Gv.prim ADb ABD
theorem ADd:MI Tryz.prog w6:=TH Gv.prim ADc ABE
theorem ADe:MI Tryz.prog w7:=TH Gv.prim ADd we
theorem ADf:MI Tryz.prog w8:=TH Gv.prim ADe ABF
theorem ADg:MI Tryz.prog w9:=TH Gv.prim ADf ABG
theorem ADh:MI Tryz.prog xA:=TH Gv.prim ADg ABH
theorem ADi:MI Tryz.prog xB:=TH Gv.prim ADh ABI
theorem ADj:MI Tryz.prog xC:=TH Gv.prim ADi ABJ
theorem ADk:MI Tryz.prog xD:=TH Gv.prim ADj ABK
theorem ADl:MI Tryz.prog xE:=TH Gv.prim ADk ABL
theorem ADm:MI Tryz.prog xF:=TH Gv.prim ADl ABM
theorem ADn:MI Tryz.prog xG:=TH Gv.prim ADm ABN
theorem ADo:MI Tryz.prog xH:=TH Gv.prim ADn wg
theorem ADp:MI Tryz.prog xI:=TH Gv.prim ADo ABO
theorem ADq:MI Tryz.prog xJ:=TH Gv.prim ADp ABP
theorem ADr:MI Tryz.prog xK:=TH Gv.prim ADq wh
theorem ADs:MI Tryz.prog zM:=TH Gv.prim ADr wi
instance glK:Gl:=Pd Gv.gl 6 zt
theorem prim : @Eg glK Tryz.prog:=TJ (G:=Gv.gl) Gv.prim ADs ran
end Go.Proofs.YtfceigpbgndbgaaGreatDoor.Gk
