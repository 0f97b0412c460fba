/- The evaluator comes to each of the plain functions. No condition. -/
import Derived.Test.YtoefnfbpoabinaaGreatDoorPt6
set_option linter.all false
open Bool renaming true->zt, false->zf
namespace Go.Proofs.YtoefnfbpoabinaaGreatDoor.Pt
open Go Sv Pl
set_option maxRecDepth 1000000
def ss:Sg:=⟨[(zf,(.sl zt T2)),(zf,.bool)],[(zf,(.sl zt T2)),(zt,qu)],Wp⟩
theorem AAW:tQ qZ [] 136 ss:=fun _=>by kernel_rfl
def qd:tL:=(136,ss)::qZ
theorem qf:tO qd:=Tb qc AAW
def wK:tA:=[(138,4,7,.loop { keep:=[0,1,7,9,8,6,10],kb:=[],pl:=[.slot 5 zf zJ,.slot 4 zf .bool],ex:=[(.ret,[]),(.exit 0,[])],pay:=.unit })]
def sv:Sg:=⟨[(zf,(.sl zt T2)),(zf,(.sl zt T2))],[(zf,.bool)],V6⟩
theorem AAY:tQ qd wK 138 sv:=fun _=>by kernel_rfl
def qg:tL:=(138,sv)::qd
theorem qh:tO qg:=Tb qf AAY
def se:Sg:=⟨[(zt,gL)],[zI],Ya⟩
theorem AAR:tQ qg [] 131 se:=fun _=>by kernel_rfl
def iH:tL:=(131,se)::qg
theorem kA:tO iH:=Tb qh AAR
def wG:tA:=[(132,6,14,.loop { keep:=[0,1,3,11,5,9,13,2,4,8,12,10,14],kb:=[0],pl:=[.slot 7 zf zJ,.slot 6 zf zJ],ex:=[(.exit 0,[])],pay:=.unit })]
def sf:Sg:=⟨[(zt,T9)],[zI,zI],Yw⟩
theorem AAS:tQ iH wG 132 sf:=fun _=>by kernel_rfl
def iI:tL:=(132,sf)::iH
theorem kB:tO iI:=Tb kA AAS
def yj:Sg:=⟨[(zt,gL)],[zI,zI],Vc⟩
theorem e89:tQ iI [] 89 yj:=fun _=>by kernel_rfl
def iJ:tL:=(89,yj)::iI
theorem kC:tO iJ:=Tb kB e89
def sj:Sg:=⟨[(zt,T9)],[(zt,T2),zI,(zt,T9),zI],Xe⟩
theorem AAU:tQ iJ [] 134 sj:=fun _=>by kernel_rfl
def iK:tL:=(134,sj)::iJ
theorem kD:tO iK:=Tb kC AAU
def AAC:tA:=[(90,11,32,.loop { keep:=[0,1,7,15,31,23,39,19,35,27,5,9,17,33,25,21,37,2,4,8,16,32,24,20,36,6,10,18,34,26,22,30],kb:=[0,1],pl:=[.slot 11 zf zJ,.box 29 [.lf (.sl zf (.sl zt T2)),.lf (.sl zf zJ),.lf (.sl zt T5),.lf (.sl zf zJ),.lf zJ,.lf .bool,.lf .str,.lf .bool,.lf (.sl zt T2),.lf zJ]],ex:=[(.exit 0,[])],pay:=.unit })]
def yp:Sg:=⟨[(zt,gL),zI],[(zt,gL),zI,zI],Vq⟩
theorem e90:tQ iK AAC 90 yp:=fun _=>by kernel_rfl
def iL:tL:=(90,yp)::iK
theorem kF:tO iL:=Tb kD e90
def wJ:tA:=[(137,4,27,.loop { keep:=[0,1,3,7,15,23,11,19,27,9,17,25,13,21,2,8,16,24,12,20,28,6,10,18,26,14,22],kb:=[0,1],pl:=[.slot 5 zf zJ,.slot 4 zf .bool],ex:=[(.ret,[]),(.exit 0,[])],pay:=.unit })]
def su:Sg:=⟨[(zt,T9),(zt,T9)],[(zf,.bool)],Yx⟩
theorem AAX:tQ iL wJ 137 su:=fun _=>by kernel_rfl
def iM:tL:=(137,su)::iL
theorem kG:tO iM:=Tb kF AAX
def yq:Sg:=⟨[(zt,gL),(zt,gL)],[(zf,.bool)],Vp⟩
theorem e91:tQ iM [] 91 yq:=fun _=>by kernel_rfl
def iN:tL:=(91,yq)::iM
theorem kH:tO iN:=Tb kG e91
def zm:tA:=[(58,10,42,.loop { keep:=[0,1,7,31,23,39,19,35,27,43,5,17,33,49,25,41,21,37,29,45,4,16,32,48,24,40,20,36,28,44,6,18,34,50,26,42,22,38,30,46],kb:=[0],pl:=[.slot 3 zf zJ,.slot 2 zf zJ,.slot 8 zf zJ],ex:=[(.ret,[]),(.exit 0,[])],pay:=.unit })]
def yT:Sg:=⟨[(zt,y8)],[zI,zI],Wl⟩
theorem e58:tQ iN zm 58 yT:=fun _=>by kernel_rfl
def iO:tL:=(58,yT)::iN
theorem kI:tO iO:=Tb kH e58
def yJ:Sg:=⟨[(zt,iy)],[zI],Xp⟩
theorem e27:tQ iO [] 27 yJ:=fun _=>by kernel_rfl
def iQ:tL:=(27,yJ)::iO
theorem kJ:tO iQ:=Tb kI e27
def AAD:tA:=[(92,2,3,.loop { keep:=[0,1,3,4],kb:=[0],pl:=[.slot 5 zf zJ],ex:=[(.exit 0,[])],pay:=.unit })]
def yu:Sg:=⟨[(zf,(.sl zt T2)),(zt,T2)],[(zf,(.sl zt T2))],Yl⟩
theorem e92:tQ iQ AAD 92 yu:=fun _=>by kernel_rfl
def iR:tL:=(92,yu)::iQ
theorem kK:tO iR:=Tb kJ e92
def zp:tA:=[(59,4,11,.loop { keep:=[0,1,3,11,13,2,4,12,10,14],kb:=[0],pl:=[.slot 5 zf (.sl zt T2),.slot 6 zf zJ],ex:=[(.exit 0,[])],pay:=.unit }),(59,7,17,.loop { keep:=[0,1,3,15,11,17,13,2,4,16,12,6,10,18,14],kb:=[0,11],pl:=[.slot 7 zf zJ,.slot 5 zf (.sl zt T2)],ex:=[(.exit 2,[])],pay:=.unit,relS:=[5] }),(59,12,14,.loop { keep:=[0,1,3,11,5,13,2,4,12,6,10,14],kb:=[0,11],pl:=[.slot 9 zf zJ,.srow 8 zt T2 zf],ex:=[],pay:=.unit }),(59,7,16,.loop { keep:=[0,1,3,15,11,17,13,2,4,16,12,6,10,18,14],kb:=[0],pl:=[.slot 7 zf zJ,.slot 5 zf (.sl zt T2)],ex:=[(.exit 2,[])],pay:=.unit }),(59,12,13,.loop { keep:=[0,1,3,11,5,13,2,4,12,6,10,14],kb:=[0],pl:=[.slot 9 zf zJ,.srow 8 zt T2 zf],ex:=[(.exit 4,[])],pay:=.unit })]
def yU:Sg:=⟨[(zt,T4)],[(zf,(.sl zt T2))],ZI⟩
theorem e59:tQ iR zp 59 yU:=fun _=>by kernel_rfl
def iS:tL:=(59,yU)::iR
theorem kL:tO iS:=Tb kK e59
def uh:tA:=[(28,4,14,.loop { keep:=[0,1,15,19,17,21,2,4,16,20,14,22],kb:=[0],pl:=[.srow 3 zt T2 zf,.slot 5 zf zJ],ex:=[(.exit 0,[])],pay:=.unit }),(28,8,21,.loop { keep:=[0,1,3,15,23,19,5,17,25,21,2,4,16,24,20,18,26,14,22],kb:=[0,14],pl:=[.slot 7 zf zJ,.slot 6 zf .bool],ex:=[(.exit 2,[])],pay:=.unit }),(28,14,16,.loop { keep:=[0,1,3,15,19,5,17,21,2,4,16,20,14,22],kb:=[0,14],pl:=[.srow 8 zt T2 zf],ex:=[(.exit 4,[])],pay:=.unit }),(28,17,24,.loop { keep:=[0,1,3,15,63,19,5,17,65,21,2,4,8,16,64,20,66,14,22,62],kb:=[0,16,14],pl:=[.slot 9 zf zJ,.slot 10 zf zJ],ex:=[(.exit 6,[])],pay:=.unit }),(28,25,19,.loop { keep:=[0,1,3,15,19,5,17,21,2,4,8,16,20,14,22],kb:=[0,16,14],pl:=[.slot 13 zf zJ,.srow 12 zt T2 zf],ex:=[(.exit 8,[])],pay:=.unit })]
def yK:Sg:=⟨[(zt,iy)],[(zf,(.sl zt T2))],Ym⟩
theorem e28:tQ iS uh 28 yK:=fun _=>by kernel_rfl
def iT:tL:=(28,yK)::iS
theorem kM:tO iT:=Tb kL e28
end Go.Proofs.YtoefnfbpoabinaaGreatDoor.Pt
