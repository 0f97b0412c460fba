/- The evaluator comes to each of the plain functions. No condition. -/
import Derived.Test.YtfceigpbgndbgaaGreatDoorPt8
set_option linter.all false
open Bool renaming true->zt, false->zf
namespace Go.Proofs.YtfceigpbgndbgaaGreatDoor.Pt
open Go Sv Pl
set_option maxRecDepth 1000000
def ui:tA:=[(28,10,42,.loop { keep:=[0,1,7,31,23,39,19,35,27,43,5,17,33,49,25,41,21,37,29,45,4,16,32,48,24,40,20,36,28,44,6,18,34,50,26,42,22,38,30,46],kb:=[0],pl:=[.slot 3 zf zJ,.slot 2 zf zJ,.slot 8 zf zJ],ex:=[(.ret,[]),(.exit 0,[])],pay:=.unit })]
def yA:Sg:=⟨[(zt,bO)],[zI,zI],V8⟩
theorem e28:tQ iD ui 28 yA:=fun _=>by kernel_rfl
def iE:tL:=(28,yA)::iD
theorem kH:tO iE:=S6 kG e28
def uj:tA:=[(29,6,15,.loop { keep:=[0,1,3,15,11,5,9,13,2,4,12,6,10,14],kb:=[0],pl:=[.slot 7 zf zJ,.slot 8 zf zJ],ex:=[(.exit 0,[])],pay:=.unit })]
def yB:Sg:=⟨[(zt,T4)],[zI,zI,zI],YQ⟩
theorem e29:tQ iE uj 29 yB:=fun _=>by kernel_rfl
def iF:tL:=(29,yB)::iE
theorem kI:tO iF:=S6 kH e29
def xp:Sg:=⟨[(zt,bO)],[zI,zI],Xc⟩
theorem e12:tQ iF [] 12 xp:=fun _=>by kernel_rfl
def iG:tL:=(12,xp)::iF
theorem kJ:tO iG:=S6 kI e12
def yC:Sg:=⟨[zI,zI],[zI,zI],Xz⟩
theorem e30:tQ iG [] 30 yC:=fun _=>by kernel_rfl
def iH:tL:=(30,yC)::iG
theorem kK:tO iH:=S6 kJ e30
def ue:tA:=[(13,2,3,.loop { keep:=[0,1],kb:=[0],pl:=[.slot 3 zf zJ,.slot 2 zf .bool],ex:=[(.ret,[]),(.exit 0,[])],pay:=.unit })]
def xq:Sg:=⟨[(zt,dx)],[(zf,.bool)],XQ⟩
theorem e13:tQ iH ue 13 xq:=fun _=>by kernel_rfl
def iI:tL:=(13,xq)::iH
theorem kL:tO iI:=S6 kK e13
def zm:tA:=[(40,2,2,.loop { keep:=[0,1],kb:=[],pl:=[.slot 5 zf zJ,.slot 4 zf .bool],ex:=[(.ret,[]),(.exit 0,[])],pay:=.unit })]
def yF:Sg:=⟨[(zf,(.sl zt T2)),(zf,(.sl zt T2))],[(zf,.bool)],WZ⟩
theorem e40:tQ iI zm 40 yF:=fun _=>by kernel_rfl
def iJ:tL:=(40,yF)::iI
theorem kM:tO iJ:=S6 kL e40
def xz:Sg:=⟨[(zt,T3),(zt,T3)],[(zf,.bool)],ZZ⟩
theorem e24:tQ iJ [] 24 xz:=fun _=>by kernel_rfl
def iK:tL:=(24,xz)::iJ
theorem kO:tO iK:=S6 kM e24
def sU:Sg:=⟨[(zt,T3),(zt,T3)],[(zf,.bool)],XY⟩
theorem AAT:tQ iK [] 116 sU:=fun _=>by kernel_rfl
def iL:tL:=(116,sU)::iK
theorem kP:tO iL:=S6 kO AAT
def AAD:tA:=[(71,4,7,.loop { keep:=[0,1,7,9,8,6,10],kb:=[],pl:=[.slot 5 zf zJ,.slot 4 zf .bool],ex:=[(.ret,[]),(.exit 0,[])],pay:=.unit })]
def yX:Sg:=⟨[(zf,(.sl zt T3)),(zf,(.sl zt T3))],[(zf,.bool)],XG⟩
theorem e71:tQ iL AAD 71 yX:=fun _=>by kernel_rfl
def iM:tL:=(71,yX)::iL
theorem kQ:tO iM:=S6 kP e71
def zp:tA:=[(41,4,18,.loop { keep:=[0,1,3,7,15,11,19,9,17,13,2,8,16,12,6,10,18,14],kb:=[0,1],pl:=[.slot 5 zf zJ,.slot 4 zf .bool],ex:=[(.ret,[]),(.exit 0,[])],pay:=.unit })]
def yG:Sg:=⟨[(zt,T4),(zt,T4)],[(zf,.bool)],Yj⟩
theorem e41:tQ iM zp 41 yG:=fun _=>by kernel_rfl
def iN:tL:=(41,yG)::iM
theorem kS:tO iN:=S6 kQ e41
def yH:Sg:=⟨[(zt,bN),(zt,bN)],[(zf,.bool)],Xa⟩
theorem e42:tQ iN [] 42 yH:=fun _=>by kernel_rfl
def iO:tL:=(42,yH)::iN
theorem kT:tO iO:=S6 kS e42
def uh:tA:=[(25,4,26,.loop { keep:=[0,1,3,7,15,23,11,19,27,9,17,25,13,21,2,8,16,24,12,20,6,10,18,26,14,22],kb:=[0,1],pl:=[.slot 5 zf zJ,.slot 4 zf .bool],ex:=[(.ret,[]),(.exit 0,[])],pay:=.unit })]
def x0:Sg:=⟨[(zt,bO),(zt,bO)],[(zf,.bool)],XI⟩
theorem e25:tQ iO uh 25 x0:=fun _=>by kernel_rfl
def iQ:tL:=(25,x0)::iO
theorem kU:tO iQ:=S6 kT e25
def sg9:Sg:=⟨[(zt,dx),(zt,dx)],[(zf,.bool)],X2⟩
theorem e9:tQ iQ [] 9 sg9:=fun _=>by kernel_rfl
def iR:tL:=(9,sg9)::iQ
theorem kV:tO iR:=S6 kU e9
def uf:tA:=[(14,4,7,.loop { keep:=[0,1,7,9,8,6,10],kb:=[],pl:=[.slot 5 zf zJ,.slot 4 zf .bool],ex:=[(.ret,[]),(.exit 0,[])],pay:=.unit })]
def xu:Sg:=⟨[(zf,(.sl zt T2)),(zf,(.sl zt T2))],[(zf,.bool)],Yd⟩
theorem e14:tQ iR uf 14 xu:=fun _=>by kernel_rfl
def iS:tL:=(14,xu)::iR
theorem kW:tO iS:=S6 kV e14
end Go.Proofs.YtfceigpbgndbgaaGreatDoor.Pt
