/- The evaluator comes to each of the plain functions. No condition. -/
import Derived.Test.YtoefnfbpoabinaaGreatDoorPt5
set_option linter.all false
open Bool renaming true->zt, false->zf
namespace Go.Proofs.YtoefnfbpoabinaaGreatDoor.Pt
open Go Sv Pl
set_option maxRecDepth 1000000
def wU:tA:=[(172,4,12,.loop { keep:=[0,1,15,11,5,9,13,4,12,10,14],kb:=[0,3,8,6],pl:=[.slot 7 zf zJ,.srow 6 zt T5 zf],ex:=[(.exit 0,[])],pay:=.unit })]
def tX:Sg:=⟨[(zf,(.sl zf (.sl zt T2))),(zf,(.sl zf zJ))],[(zt,T9)],W7⟩
theorem AAn:tQ p9 wU 172 tX:=fun _=>by kernel_rfl
def qB:tL:=(172,tX)::p9
theorem qC:tO qB:=UE qA AAn
def tG:Sg:=⟨[(zf,(.sl zf (.sl zt T2)))],[(zt,T9),zI,zI],Zq⟩
theorem AAc:tQ qB [] 149 tG:=fun _=>by kernel_rfl
def qD:tL:=(149,tG)::qB
theorem qE:tO qD:=UE qC AAc
def tH:Sg:=⟨[(zf,.bool)],[(zt,rB)],W8⟩
theorem AAd:tQ qD [] 150 tH:=fun _=>by kernel_rfl
def qG:tL:=(150,tH)::qD
theorem qH:tO qG:=UE qE AAd
def sT:Sg:=⟨[(zf,(.sl zf (.sl zt T2))),(zf,.bool)],[(zt,gf),zI,zI],Yv⟩
theorem AAI:tQ qG [] 107 sT:=fun _=>by kernel_rfl
def qI:tL:=(107,sT)::qG
theorem qK:tO qI:=UE qH AAI
def yf:Sg:=⟨[(zt,T4),zI,(zf,.bool)],[(zt,zC)],V6⟩
theorem e79:tQ qI [] 79 yf:=fun _=>by kernel_rfl
def qN:tL:=(79,yf)::qI
theorem qO:tO qN:=UE qK e79
def wX:tA:=[(175,4,7,.loop { keep:=[0,1,7,9,8,6,10],kb:=[],pl:=[.slot 5 zf zJ,.slot 4 zf .bool],ex:=[(.ret,[]),(.exit 0,[])],pay:=.unit })]
def td:Sg:=⟨[(zf,(.sl zf zJ)),(zf,(.sl zf zJ))],[(zf,.bool)],ZK⟩
theorem AAq:tQ qN wX 175 td:=fun _=>by kernel_rfl
def qP:tL:=(175,td)::qN
theorem qQ:tO qP:=UE qO AAq
def wY:tA:=[(176,4,26,.loop { keep:=[0,1,3,7,15,23,11,19,27,9,17,25,13,21,2,8,16,24,12,20,6,10,18,26,14,22],kb:=[0,1],pl:=[.slot 5 zf zJ,.slot 4 zf .bool],ex:=[(.ret,[]),(.exit 0,[])],pay:=.unit })]
def te:Sg:=⟨[(zt,T7),(zt,T7)],[(zf,.bool)],YY⟩
theorem AAr:tQ qP wY 176 te:=fun _=>by kernel_rfl
def qR:tL:=(176,te)::qP
theorem qT:tO qR:=UE qQ AAr
def wT:tA:=[(171,3,3,.loop { keep:=[0,1,4],kb:=[],pl:=[.slot 5 zf zJ,.slot 6 zf zJ],ex:=[(.exit 0,[])],pay:=.unit })]
def tW:Sg:=⟨[(zf,(.sl zf (.sl zt T2))),(zf,(.sl zf zJ))],[zI],XZ⟩
theorem AAm:tQ qR wT 171 tW:=fun _=>by kernel_rfl
def qU:tL:=(171,tW)::qR
theorem qV:tO qU:=UE qT AAm
def wS:tA:=[(170,7,21,.loop { keep:=[0,1,15,23,11,27,5,17,25,13,21,4,16,24,12,18,26,14,22],kb:=[0],pl:=[.slot 3 zf zJ,.slot 2 zf zJ,.slot 6 zf zJ],ex:=[(.ret,[]),(.exit 0,[])],pay:=.unit }),(170,15,38,.loop { keep:=[0,1,7,15,63,23,11,67,27,59,5,17,65,25,57,13,21,69,61,4,16,64,24,56,12,68,60,6,18,66,26,58,14,22,70,62],kb:=[0],pl:=[.slot 3 zf zJ,.slot 2 zf zJ,.slot 8 zf zJ],ex:=[(.ret,[]),(.exit 2,[])],pay:=.unit })]
def tV:Sg:=⟨[(zt,T9)],[zI,zI],XY⟩
theorem AAl:tQ qU wS 170 tV:=fun _=>by kernel_rfl
def qX:tL:=(170,tV)::qU
theorem qY:tO qX:=UE qV AAl
def wJ:tA:=[(133,3,4,.loop { keep:=[0,1,2],kb:=[0],pl:=[.slot 3 zf zJ,.slot 4 zf zJ],ex:=[(.exit 0,[])],pay:=.unit })]
def sq:Sg:=⟨[(zt,gf)],[zI],X4⟩
theorem AAU:tQ qX wJ 133 sq:=fun _=>by kernel_rfl
def qZ:tL:=(133,sq)::qX
theorem qc:tO qZ:=UE qY AAU
def wK:tA:=[(135,7,18,.loop { keep:=[0,15,11,19,5,17,13,16,12,20,6,14],kb:=[],pl:=[.srow 3 zf zJ zf,.srow 7 zt T2 zf,.srow 2 zt T2 zf,.slot 4 zf zJ,.srow 8 zf zJ zf,.srow 9 zf zJ zt],ex:=[(.ret,[])],pay:=.unit,plx:=[.srow 3 zf zJ zf,.srow 2 zt T2 zf,.slot 4 zf zJ] })]
def su:Sg:=⟨[(zf,(.sl zf (.sl zt T2)))],[(zf,(.sl zt T2)),(zf,(.sl zf zJ)),zI],YM⟩
theorem AAW:tQ qZ wK 135 su:=fun _=>by kernel_rfl
def qd:tL:=(135,su)::qZ
theorem qf:tO qd:=UE qc AAW
def uG:Sg:=⟨[(zt,rB)],[zI],Yu⟩
theorem ABD:tQ qd [] 228 uG:=fun _=>by kernel_rfl
def qg:tL:=(228,uG)::qd
theorem qh:tO qg:=UE qf ABD
def t5:Sg:=⟨[(zt,rB),(zt,T2)],[(zf,.bool),(zt,rB),zI],ZP⟩
theorem AA3:tQ qg [] 204 t5:=fun _=>by kernel_rfl
def qi:tL:=(204,t5)::qg
theorem qj:tO qi:=UE qh AA3
def wW:tA:=[(174,6,12,.loop { keep:=[0,1,7,15,17,13,16,14],kb:=[],pl:=[.slot 5 zf zJ,.slot 9 zf zJ,.srow 4 zt T2 zf,.srow 8 zt T2 zf,.slot 6 zf zJ,.box 8 [.lf .bool,.lf .str,.lf .bool]],ex:=[(.ret,[]),(.exit 0,[])],pay:=.unit })]
def tZ:Sg:=⟨[(zf,(.sl zt T2)),(zf,.bool)],[(zf,(.sl zt T2)),zI,zI],Ya⟩
theorem AAp:tQ qi wW 174 tZ:=fun _=>by kernel_rfl
def qk:tL:=(174,tZ)::qi
theorem ql:tO qk:=UE qj AAp
end Go.Proofs.YtoefnfbpoabinaaGreatDoor.Pt
