/- The evaluator comes to each of the plain functions. No condition. -/
import Derived.Test.YtfceigpbgndbgaaGreatDoorPt7
set_option linter.all false
open Bool renaming true->zt, false->zf
namespace Go.Proofs.YtfceigpbgndbgaaGreatDoor.Pt
open Go Sv Pl
set_option maxRecDepth 1000000
def yE:tA:=[(125,7,21,.loop { keep:=[0,1,15,23,11,27,5,17,25,13,21,4,16,24,12,18,26,14,22],kb:=[0],pl:=[.slot 3 zf zJ,.slot 2 zf zJ,.slot 6 zf zJ],ex:=[(.ret,[]),(.exit 0,[])],pay:=.unit }),(125,15,38,.loop { keep:=[0,1,7,15,63,23,11,67,27,59,5,17,65,25,57,13,21,69,61,4,16,64,24,56,12,68,60,6,18,66,26,58,14,22,70,62],kb:=[0],pl:=[.slot 3 zf zJ,.slot 2 zf zJ,.slot 8 zf zJ],ex:=[(.ret,[]),(.exit 2,[])],pay:=.unit })]
def uk:Sg:=⟨[(zt,T9)],[zI,zI],Wz⟩
theorem AB3:tQ iK yE 125 uk:=fun _=>by kernel_rfl
def iL:tL:=(125,uk)::iK
theorem kz:tO iL:=S6 ky AB3
def ABh:tA:=[(82,3,4,.loop { keep:=[0,1,2],kb:=[0],pl:=[.slot 3 zf zJ,.slot 4 zf zJ],ex:=[(.exit 0,[])],pay:=.unit })]
def AAw:Sg:=⟨[(zt,gC)],[zI],XK⟩
theorem e82:tQ iL ABh 82 AAw:=fun _=>by kernel_rfl
def iM:tL:=(82,AAw)::iL
theorem lA:tO iM:=S6 kz e82
def ABi:tA:=[(84,7,18,.loop { keep:=[0,15,11,19,5,17,13,16,12,20,6,14],kb:=[],pl:=[.srow 3 zf zJ zf,.srow 7 zt T2 zf,.srow 2 zt T2 zf,.slot 4 zf zJ,.srow 8 zf zJ zf,.srow 9 zf zJ zt],ex:=[(.ret,[])],pay:=.unit,plx:=[.srow 3 zf zJ zf,.srow 2 zt T2 zf,.slot 4 zf zJ] })]
def AAy:Sg:=⟨[(zf,(.sl zf (.sl zt T2)))],[(zf,(.sl zt T2)),(zf,(.sl zf zJ)),zI],Xp⟩
theorem e84:tQ iM ABi 84 AAy:=fun _=>by kernel_rfl
def iN:tL:=(84,AAy)::iM
theorem lB:tO iN:=S6 lA e84
def vo:Sg:=⟨[(zt,ss)],[zI],YT⟩
theorem ACp:tQ iN [] 210 vo:=fun _=>by kernel_rfl
def iO:tL:=(210,vo)::iN
theorem lC:tO iO:=S6 lB ACp
def vI:Sg:=⟨[(zt,ss),(zt,T2)],[(zf,.bool),(zt,ss),zI],Yp⟩
theorem ACU:tQ iO [] 179 vI:=fun _=>by kernel_rfl
def iQ:tL:=(179,vI)::iO
theorem lD:tO iQ:=S6 lC ACU
def yI:tA:=[(129,6,12,.loop { keep:=[0,1,7,15,17,13,16,14],kb:=[],pl:=[.slot 5 zf zJ,.slot 9 zf zJ,.srow 4 zt T2 zf,.srow 8 zt T2 zf,.slot 6 zf zJ,.box 8 [.lf .bool,.lf .str,.lf .bool]],ex:=[(.ret,[]),(.exit 0,[])],pay:=.unit })]
def uq:Sg:=⟨[(zf,(.sl zt T2)),(zf,.bool)],[(zf,(.sl zt T2)),zI,zI],X2⟩
theorem AB7:tQ iQ yI 129 uq:=fun _=>by kernel_rfl
def iR:tL:=(129,uq)::iQ
theorem lE:tO iR:=S6 lD AB7
def AAz:Sg:=⟨[(zf,(.sl zt T2)),(zf,.bool)],[(zf,(.sl zt T2)),(zt,ss)],Wd⟩
theorem e85:tQ iR [] 85 AAz:=fun _=>by kernel_rfl
def iS:tL:=(85,AAz)::iR
theorem lF:tO iS:=S6 lE e85
def ABk:tA:=[(87,4,7,.loop { keep:=[0,1,7,9,8,6,10],kb:=[],pl:=[.slot 5 zf zJ,.slot 4 zf .bool],ex:=[(.ret,[]),(.exit 0,[])],pay:=.unit })]
def AA1:Sg:=⟨[(zf,(.sl zt T2)),(zf,(.sl zt T2))],[(zf,.bool)],Vk⟩
theorem e87:tQ iS ABk 87 AA1:=fun _=>by kernel_rfl
def iT:tL:=(87,AA1)::iS
theorem lG:tO iT:=S6 lF e87
def AAu:Sg:=⟨[(zt,gC)],[zI],YV⟩
theorem e80:tQ iT [] 80 AAu:=fun _=>by kernel_rfl
def iU:tL:=(80,AAu)::iT
theorem lH:tO iU:=S6 lG e80
def ABg:tA:=[(81,6,14,.loop { keep:=[0,1,3,11,5,9,13,2,4,8,12,10,14],kb:=[0],pl:=[.slot 7 zf zJ,.slot 6 zf zJ],ex:=[(.exit 0,[])],pay:=.unit })]
def AAv:Sg:=⟨[(zt,T9)],[zI,zI],Yn⟩
theorem e81:tQ iU ABg 81 AAv:=fun _=>by kernel_rfl
def iV:tL:=(81,AAv)::iU
theorem lI:tO iV:=S6 lH e81
def AAd:Sg:=⟨[(zt,gC)],[zI,zI],U5⟩
theorem e50:tQ iV [] 50 AAd:=fun _=>by kernel_rfl
def iW:tL:=(50,AAd)::iV
theorem lJ:tO iW:=S6 lI e50
def AAx:Sg:=⟨[(zt,T9)],[(zt,T2),zI,(zt,T9),zI],XJ⟩
theorem e83:tQ iW [] 83 AAx:=fun _=>by kernel_rfl
def iX:tL:=(83,AAx)::iW
theorem lK:tO iX:=S6 lJ e83
def ABW:tA:=[(51,11,32,.loop { keep:=[0,1,7,15,31,23,39,19,35,27,5,9,17,33,25,21,37,2,4,8,16,32,24,20,36,6,10,18,34,26,22,30],kb:=[0,1],pl:=[.slot 11 zf zJ,.box 29 [.lf (.sl zf (.sl zt T2)),.lf (.sl zf zJ),.lf (.sl zt T5),.lf (.sl zf zJ),.lf zJ,.lf .bool,.lf .str,.lf .bool,.lf (.sl zt T2),.lf zJ]],ex:=[(.exit 0,[])],pay:=.unit })]
def AAe:Sg:=⟨[(zt,gC),zI],[(zt,gC),zI,zI],Uz⟩
theorem e51:tQ iX ABW 51 AAe:=fun _=>by kernel_rfl
def iY:tL:=(51,AAe)::iX
theorem lL:tO iY:=S6 lK e51
def ABj:tA:=[(86,4,27,.loop { keep:=[0,1,3,7,15,23,11,19,27,9,17,25,13,21,2,8,16,24,12,20,28,6,10,18,26,14,22],kb:=[0,1],pl:=[.slot 5 zf zJ,.slot 4 zf .bool],ex:=[(.ret,[]),(.exit 0,[])],pay:=.unit })]
def AA0:Sg:=⟨[(zt,T9),(zt,T9)],[(zf,.bool)],Yo⟩
theorem e86:tQ iY ABj 86 AA0:=fun _=>by kernel_rfl
def iZ:tL:=(86,AA0)::iY
theorem lM:tO iZ:=S6 lL e86
end Go.Proofs.YtfceigpbgndbgaaGreatDoor.Pt
