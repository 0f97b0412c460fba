/- The evaluator comes to each of the plain functions. No condition. -/
import Derived.Test.YtfceigpbgndbgaaGreatDoorPt2
set_option linter.all false
open Option renaming none->zn
open Bool renaming true->zt, false->zf
namespace Go.Proofs.YtfceigpbgndbgaaGreatDoor.Pt
open Go Sv Pl
set_option maxRecDepth 1000000
def yu:tA:=[(242,13,63,.loop { keep:=[0,1,3,7,31,63,47,55,11,19,35,51,27,43,59,9,17,33,49,25,41,57,13,21,37,53,29,61,2,4,8,32,24,40,56,12,20,36,52,28,44,60,6,18,34,50,26,42,58,14,38,54,30,46,62],kb:=[0,1,33,52],pl:=[.slot 5 zf zJ,.slot 10 zf zJ,.box 2 [.kp 33,.ow zf zJ zf,.lf zJ]],ex:=[(.exit 0,[])],pay:=.unit })]
def wM:Sg:=⟨[(zt,T7),(zt,T5)],[(zt,T7),zI,zI],V6⟩
theorem ADB:tQ pN yu 242 wM:=fun _=>by kernel_rfl
def pP:tL:=(242,wM)::pN
theorem pQ:tO pP:=S6 pO ADB
def yX:tA:=[(240,0,45,.loop { keep:=[0,1],kb:=[39,35,43,9,13,44],pl:=[.box 0 [.ow zt T2 zf],.box 1 [.ow zf zJ zf]],ex:=[(.ret,[(44,0,zn)])],pay:=.unit }),(215,3,47,.loop { keep:=[0,1,11,13,4,10,14],kb:=[0,1,39,27,13,30],pl:=[.slot 15 zf zJ,.srow 5 zt T5 zt],ex:=[(.exit 0,[])],pay:=.unit }),(240,0,72,.loop { keep:=[0,1],kb:=[47,39,71,9,13,53,66,70,30],pl:=[.box 0 [.ow zt T2 zf],.box 1 [.ow zf zJ zf],.box 62 [.kp 30,.ow zf zJ zt,.lf (.sl zt T5),.lf (.sl zf zJ),.lf zJ]],ex:=[(.ret,[(71,0,zn)])],pay:=.unit })]
def vQ:Sg:=⟨[(zf,(.sl zf (.sl zt T2)))],[(zf,(.sl zt T2)),(zf,(.sl zf zJ)),zI],ZM⟩
theorem ACZ:tQ pP yX 192 vQ:=fun _=>by kernel_rfl
def pR:tL:=(192,vQ)::pP
theorem pT:tO pR:=S6 pQ ACZ
def wN:Sg:=⟨[(zt,ss)],[zI],XD⟩
theorem ADC:tQ pR [] 243 wN:=fun _=>by kernel_rfl
def pU:tL:=(243,wN)::pR
theorem pV:tO pU:=S6 pT ADC
def wX:Sg:=⟨[(zt,T2)],[(zt,T2)],U2⟩
theorem ADP:tQ pU [] 294 wX:=fun _=>by kernel_rfl
def pW:tL:=(294,wX)::pU
theorem pX:tO pW:=S6 pV ADP
def yY:tA:=[(221,5,24,.loop { keep:=[0,1,15,19,17,2,8,16,20,18,14],kb:=[],pl:=[.slot 7 zf zJ,.slot 21 zf zJ,.slot 6 zf zJ,.box 19 [.lf .bool,.lf .str,.lf .bool],.box 0 [.ow zt T2 zf]],ex:=[(.ret,[]),(.exit 0,[])],pay:=.unit })]
def vR:Sg:=⟨[(zf,(.sl zt T2)),(zf,.bool)],[(zf,(.sl zt T2)),zI,zI],Xh⟩
theorem ACa:tQ pW yY 193 vR:=fun _=>by kernel_rfl
def pY:tL:=(193,vR)::pW
theorem pZ:tO pY:=S6 pX ACa
def yZ:tA:=[(194,4,9,.loop { keep:=[0,1,7,11,9,13,8,12,10],kb:=[],pl:=[.slot 4 zf .bool,.slot 14 zf zJ],ex:=[(.ret,[]),(.exit 0,[])],pay:=.unit })]
def vS:Sg:=⟨[(zf,(.sl zt T2)),(zf,(.sl zt T2))],[(zf,.bool)],XE⟩
theorem ACb:tQ pY yZ 194 vS:=fun _=>by kernel_rfl
def pf:tL:=(194,vS)::pY
theorem pj:tO pf:=S6 pZ ACb
def yN:tA:=[(151,6,18,.loop { keep:=[0,1,3,15,23,19,17,25,21,2,4,16,24,20,18,26,14],kb:=[0],pl:=[.slot 27 zf zJ,.slot 5 zf zJ],ex:=[(.exit 0,[])],pay:=.unit })]
def ux:Sg:=⟨[(zt,gC)],[zI],YD⟩
theorem ACE:tQ pf yN 151 ux:=fun _=>by kernel_rfl
def pk:tL:=(151,ux)::pf
theorem pn:tO pk:=S6 pj ACE
def yO:tA:=[(152,6,17,.loop { keep:=[0,1,3,15,11,19,5,9,17,13,2,4,12,10,18,14],kb:=[0],pl:=[.slot 20 zf zJ,.slot 6 zf zJ],ex:=[(.exit 0,[])],pay:=.unit })]
def uy:Sg:=⟨[(zt,T9)],[zI,zI],Yk⟩
theorem ACF:tQ pk yO 152 uy:=fun _=>by kernel_rfl
def po:tL:=(152,uy)::pk
theorem pq:tO po:=S6 pn ACF
def uX:Sg:=⟨[(zt,gC)],[zI,zI],VK⟩
theorem ABr:tQ po [] 107 uX:=fun _=>by kernel_rfl
def pw:tL:=(107,uX)::po
theorem px:tO pw:=S6 pq ABr
def vT:Sg:=⟨[(zt,T9)],[(zt,T2),zI,(zt,T9),zI],Vi⟩
theorem ACc:tQ pw [] 195 vT:=fun _=>by kernel_rfl
def py:tL:=(195,vT)::pw
theorem pz:tO py:=S6 px ACc
def vU:Sg:=⟨[(zt,ss),(zt,T2)],[(zf,.bool),(zt,ss),zI],Vv⟩
theorem ACd:tQ py [] 196 vU:=fun _=>by kernel_rfl
def p8:tL:=(196,vU)::py
theorem p9:tO p8:=S6 pz ACd
def yA:tA:=[(153,2,81,.loop { keep:=[0,1,6],kb:=[0,1,39,67,68],pl:=[.slot 7 zf zJ,.slot 4 zf zJ,.box 28 [.lf (.sl zf (.sl zt T2)),.lf (.sl zf zJ),.lf (.sl zt T5),.lf (.sl zf zJ),.lf zJ,.lf .bool,.lf .str,.lf .bool,.ow zt T2 zf,.lf zJ]],ex:=[(.ret,[]),(.exit 0,[])],pay:=.unit }),(153,2,98,.loop { keep:=[0,1,6],kb:=[0,1,39,67,68,86],pl:=[.slot 7 zf zJ,.slot 4 zf zJ,.box 28 [.lf (.sl zf (.sl zt T2)),.lf (.sl zf zJ),.lf (.sl zt T5),.lf (.sl zf zJ),.lf zJ,.lf .bool,.lf .str,.lf .bool,.ow zt T2 zf,.lf zJ]],ex:=[(.ret,[]),(.exit 0,[])],pay:=.unit }),(153,2,133,.loop { keep:=[0,1,6],kb:=[0,1,39,67,68,86],pl:=[.slot 7 zf zJ,.slot 4 zf zJ,.box 28 [.lf (.sl zf (.sl zt T2)),.lf (.sl zf zJ),.lf (.sl zt T5),.lf (.sl zf zJ),.lf zJ,.lf .bool,.lf .str,.lf .bool,.ow zt T2 zf,.lf zJ]],ex:=[(.ret,[]),(.exit 0,[])],pay:=.unit }),(153,2,120,.loop { keep:=[0,1,6],kb:=[0,1,39,67,68,86],pl:=[.slot 7 zf zJ,.slot 4 zf zJ,.box 28 [.lf (.sl zf (.sl zt T2)),.lf (.sl zf zJ),.lf (.sl zt T5),.lf (.sl zf zJ),.lf zJ,.lf .bool,.lf .str,.lf .bool,.ow zt T2 zf,.lf zJ]],ex:=[(.ret,[]),(.exit 0,[])],pay:=.unit })]
def uY:Sg:=⟨[(zt,gC),zI],[(zt,gC),zI,zI],Vf⟩
theorem ABs:tQ p8 yA 108 uY:=fun _=>by kernel_rfl
def qA:tL:=(108,uY)::p8
theorem qB:tO qA:=S6 p9 ABs
def yc:tA:=[(197,4,9,.loop { keep:=[0,1,7,11,9,8,12,6,10],kb:=[],pl:=[.slot 13 zf zJ,.slot 4 zf .bool],ex:=[(.ret,[]),(.exit 0,[])],pay:=.unit })]
def vV:Sg:=⟨[(zf,(.sl zt T2)),(zf,(.sl zt T2))],[(zf,.bool)],VP⟩
theorem ACe:tQ qA yc 197 vV:=fun _=>by kernel_rfl
def qC:tL:=(197,vV)::qA
theorem qD:tO qC:=S6 qB ACe
def uz:Sg:=⟨[(zf,(.sl zt T2)),(zf,(.sl zt T2))],[(zf,.bool)],Vd⟩
theorem ACG:tQ qC [] 156 uz:=fun _=>by kernel_rfl
def qE:tL:=(156,uz)::qC
theorem qG:tO qE:=S6 qD ACG
end Go.Proofs.YtfceigpbgndbgaaGreatDoor.Pt
