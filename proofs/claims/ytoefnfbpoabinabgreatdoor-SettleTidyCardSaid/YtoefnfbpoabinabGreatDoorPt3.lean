/- The evaluator comes to each of the plain functions. No condition. -/
import Derived.Test.YtoefnfbpoabinabGreatDoorPt2
set_option linter.all false
open Option renaming none->zn
open Bool renaming true->zt, false->zf
namespace Go.Proofs.YtoefnfbpoabinabGreatDoor.Pt
open Go Sv Pl
set_option maxRecDepth 1000000
def zL:tA:=[(221,13,63,.loop { keep:=[0,1,3,7,31,63,47,55,11,19,35,51,27,43,59,9,17,33,49,25,41,57,13,21,37,53,29,61,2,4,8,32,24,40,56,12,20,36,52,28,44,60,6,18,34,50,26,42,58,14,38,54,30,46,62],kb:=[0,1,33,52],pl:=[.slot 5 zf zJ,.slot 10 zf zJ,.box 2 [.kp 33,.ow zf zJ zf,.lf zJ]],ex:=[(.exit 0,[])],pay:=.unit })]
def wP:Sg:=⟨[(zt,T7),(zt,T5)],[(zt,T7),zI,zI],Wb⟩
theorem AC7:tQ qP zL 221 wP:=fun _=>by kernel_rfl
def qR:tL:=(221,wP)::qP
theorem qT:tO qR:=Tb qQ AC7
def y0:tA:=[(219,0,45,.loop { keep:=[0,1],kb:=[39,35,43,9,13,44],pl:=[.box 0 [.ow zt T2 zf],.box 1 [.ow zf zJ zf]],ex:=[(.ret,[(44,0,zn)])],pay:=.unit }),(195,3,47,.loop { keep:=[0,1,11,13,4,10,14],kb:=[0,1,39,27,13,30],pl:=[.slot 15 zf zJ,.srow 5 zt T5 zt],ex:=[(.exit 0,[])],pay:=.unit }),(219,0,72,.loop { keep:=[0,1],kb:=[47,39,71,9,13,53,66,70,30],pl:=[.box 0 [.ow zt T2 zf],.box 1 [.ow zf zJ zf],.box 62 [.kp 30,.ow zf zJ zt,.lf (.sl zt T5),.lf (.sl zf zJ),.lf zJ]],ex:=[(.ret,[(71,0,zn)])],pay:=.unit })]
def ve:Sg:=⟨[(zf,(.sl zf (.sl zt T2)))],[(zf,(.sl zt T2)),(zf,(.sl zf zJ)),zI],Zt⟩
theorem ACe:tQ qR y0 176 ve:=fun _=>by kernel_rfl
def qU:tL:=(176,ve)::qR
theorem qV:tO qU:=Tb qT ACe
def wQ:Sg:=⟨[(zt,yZ)],[zI],Xw⟩
theorem AC8:tQ qU [] 222 wQ:=fun _=>by kernel_rfl
def qX:tL:=(222,wQ)::qU
theorem qY:tO qX:=Tb qV AC8
def wZ:Sg:=⟨[(zt,T2)],[(zt,T2)],Vl⟩
theorem ADK:tQ qX [] 273 wZ:=fun _=>by kernel_rfl
def qZ:tL:=(273,wZ)::qX
theorem qc:tO qZ:=Tb qY ADK
def y8:tA:=[(201,5,24,.loop { keep:=[0,1,15,19,17,2,8,16,20,18,14],kb:=[],pl:=[.slot 7 zf zJ,.slot 21 zf zJ,.slot 6 zf zJ,.box 19 [.lf .bool,.lf .str,.lf .bool],.box 0 [.ow zt T2 zf]],ex:=[(.ret,[]),(.exit 0,[])],pay:=.unit })]
def vi:Sg:=⟨[(zf,(.sl zt T2)),(zf,.bool)],[(zf,(.sl zt T2)),zI,zI],Yb⟩
theorem ACf:tQ qZ y8 177 vi:=fun _=>by kernel_rfl
def qd:tL:=(177,vi)::qZ
theorem qf:tO qd:=Tb qc ACf
def y9:tA:=[(178,4,9,.loop { keep:=[0,1,7,11,9,13,8,12,10],kb:=[],pl:=[.slot 4 zf .bool,.slot 14 zf zJ],ex:=[(.ret,[]),(.exit 0,[])],pay:=.unit })]
def vj:Sg:=⟨[(zf,(.sl zt T2)),(zf,(.sl zt T2))],[(zf,.bool)],Xx⟩
theorem ACg:tQ qd y9 178 vj:=fun _=>by kernel_rfl
def qg:tL:=(178,vj)::qd
theorem qh:tO qg:=Tb qf ACg
def yj:tA:=[(143,6,18,.loop { keep:=[0,1,3,15,23,19,17,25,21,2,4,16,24,20,18,26,14],kb:=[0],pl:=[.slot 27 zf zJ,.slot 5 zf zJ],ex:=[(.exit 0,[])],pay:=.unit })]
def vQ:Sg:=⟨[(zt,t9)],[zI],Yw⟩
theorem ACS:tQ qg yj 143 vQ:=fun _=>by kernel_rfl
def qi:tL:=(143,vQ)::qg
theorem qj:tO qi:=Tb qh ACS
def yp:tA:=[(144,6,17,.loop { keep:=[0,1,3,15,11,19,5,9,17,13,2,4,12,10,18,14],kb:=[0],pl:=[.slot 20 zf zJ,.slot 6 zf zJ],ex:=[(.exit 0,[])],pay:=.unit })]
def vR:Sg:=⟨[(zt,T9)],[zI,zI],ZR⟩
theorem ACT:tQ qi yp 144 vR:=fun _=>by kernel_rfl
def qk:tL:=(144,vR)::qi
theorem ql:tO qk:=Tb qj ACT
def vA:Sg:=⟨[(zt,t9)],[zI,zI],V0⟩
theorem ACG:tQ qk [] 104 vA:=fun _=>by kernel_rfl
def qm:tL:=(104,vA)::qk
theorem qn:tO qm:=Tb ql ACG
def vk:Sg:=⟨[(zt,T9)],[(zt,T2),zI,(zt,T9),zI],WH⟩
theorem ACh:tQ qm [] 179 vk:=fun _=>by kernel_rfl
def qo:tL:=(179,vk)::qm
theorem qp:tO qo:=Tb qn ACh
def vn:Sg:=⟨[(zt,yZ),(zt,T2)],[(zf,.bool),(zt,yZ),zI],WT⟩
theorem ACi:tQ qo [] 180 vn:=fun _=>by kernel_rfl
def qq:tL:=(180,vn)::qo
theorem qt:tO qq:=Tb qp ACi
def yd:tA:=[(145,2,81,.loop { keep:=[0,1,6],kb:=[0,1,39,67,68],pl:=[.slot 7 zf zJ,.slot 4 zf zJ,.box 28 [.lf (.sl zf (.sl zt T2)),.lf (.sl zf zJ),.lf (.sl zt T5),.lf (.sl zf zJ),.lf zJ,.lf .bool,.lf .str,.lf .bool,.ow zt T2 zf,.lf zJ]],ex:=[(.ret,[]),(.exit 0,[])],pay:=.unit }),(145,2,98,.loop { keep:=[0,1,6],kb:=[0,1,39,67,68,86],pl:=[.slot 7 zf zJ,.slot 4 zf zJ,.box 28 [.lf (.sl zf (.sl zt T2)),.lf (.sl zf zJ),.lf (.sl zt T5),.lf (.sl zf zJ),.lf zJ,.lf .bool,.lf .str,.lf .bool,.ow zt T2 zf,.lf zJ]],ex:=[(.ret,[]),(.exit 0,[])],pay:=.unit }),(145,2,133,.loop { keep:=[0,1,6],kb:=[0,1,39,67,68,86],pl:=[.slot 7 zf zJ,.slot 4 zf zJ,.box 28 [.lf (.sl zf (.sl zt T2)),.lf (.sl zf zJ),.lf (.sl zt T5),.lf (.sl zf zJ),.lf zJ,.lf .bool,.lf .str,.lf .bool,.ow zt T2 zf,.lf zJ]],ex:=[(.ret,[]),(.exit 0,[])],pay:=.unit }),(145,2,120,.loop { keep:=[0,1,6],kb:=[0,1,39,67,68,86],pl:=[.slot 7 zf zJ,.slot 4 zf zJ,.box 28 [.lf (.sl zf (.sl zt T2)),.lf (.sl zf zJ),.lf (.sl zt T5),.lf (.sl zf zJ),.lf zJ,.lf .bool,.lf .str,.lf .bool,.ow zt T2 zf,.lf zJ]],ex:=[(.ret,[]),(.exit 0,[])],pay:=.unit })]
def vB:Sg:=⟨[(zt,t9),zI],[(zt,t9),zI,zI],WE⟩
theorem ACH:tQ qq yd 105 vB:=fun _=>by kernel_rfl
def qu:tL:=(105,vB)::qq
theorem qv:tO qu:=Tb qt ACH
def zA:tA:=[(181,4,9,.loop { keep:=[0,1,7,11,9,8,12,6,10],kb:=[],pl:=[.slot 13 zf zJ,.slot 4 zf .bool],ex:=[(.ret,[]),(.exit 0,[])],pay:=.unit })]
def vo:Sg:=⟨[(zf,(.sl zt T2)),(zf,(.sl zt T2))],[(zf,.bool)],Vu⟩
theorem ACj:tQ qu zA 181 vo:=fun _=>by kernel_rfl
def qw:tL:=(181,vo)::qu
theorem qx:tO qw:=Tb qv ACj
def vS:Sg:=⟨[(zf,(.sl zt T2)),(zf,(.sl zt T2))],[(zf,.bool)],V9⟩
theorem ACU:tQ qw [] 148 vS:=fun _=>by kernel_rfl
def qy:tL:=(148,vS)::qw
theorem qz:tO qy:=Tb qx ACU
end Go.Proofs.YtoefnfbpoabinabGreatDoor.Pt
