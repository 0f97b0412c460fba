/- The evaluator comes to each of the plain functions. No condition. -/
import Derived.Test.YtoefnfbpoabinaaGreatDoorPt5
set_option linter.all false
open Bool renaming true->zt, false->zf
namespace Go.Proofs.YtoefnfbpoabinaaGreatDoor.Pt
open Go Sv Pl
set_option maxRecDepth 1000000
def wS:tA:=[(172,4,12,.loop { keep:=[0,1,15,11,5,9,13,4,12,10,14],kb:=[0,3,8,6],pl:=[.slot 7 zf zJ,.srow 6 zt T5 zf],ex:=[(.exit 0,[])],pay:=.unit })]
def tV:Sg:=⟨[(zf,(.sl zf (.sl zt T2))),(zf,(.sl zf zJ))],[(zt,T9)],Wi⟩
theorem AAm:tQ pn wS 172 tV:=fun _=>by kernel_rfl
def pq:tL:=(172,tV)::pn
theorem pw:tO pq:=Tb po AAm
def tC:Sg:=⟨[(zf,(.sl zf (.sl zt T2)))],[(zt,T9),zI,zI],ZU⟩
theorem AAb:tQ pq [] 149 tC:=fun _=>by kernel_rfl
def px:tL:=(149,tC)::pq
theorem py:tO px:=Tb pw AAb
def tD:Sg:=⟨[(zf,.bool)],[(zt,qu)],Wj⟩
theorem AAc:tQ px [] 150 tD:=fun _=>by kernel_rfl
def pz:tL:=(150,tD)::px
theorem p8:tO pz:=Tb py AAc
def sR:Sg:=⟨[(zf,(.sl zf (.sl zt T2))),(zf,.bool)],[(zt,gL),zI,zI],YZ⟩
theorem AAH:tQ pz [] 107 sR:=fun _=>by kernel_rfl
def p9:tL:=(107,sR)::pz
theorem qA:tO p9:=Tb p8 AAH
def ye:Sg:=⟨[(zt,T4),zI,(zf,.bool)],[(zt,zB)],Vh⟩
theorem e79:tQ p9 [] 79 ye:=fun _=>by kernel_rfl
def qB:tL:=(79,ye)::p9
theorem qC:tO qB:=Tb qA e79
def wV:tA:=[(175,4,7,.loop { keep:=[0,1,7,9,8,6,10],kb:=[],pl:=[.slot 5 zf zJ,.slot 4 zf .bool],ex:=[(.ret,[]),(.exit 0,[])],pay:=.unit })]
def tY:Sg:=⟨[(zf,(.sl zf zJ)),(zf,(.sl zf zJ))],[(zf,.bool)],Yt⟩
theorem AAp:tQ qB wV 175 tY:=fun _=>by kernel_rfl
def qD:tL:=(175,tY)::qB
theorem qE:tO qD:=Tb qC AAp
def wW:tA:=[(176,4,26,.loop { keep:=[0,1,3,7,15,23,11,19,27,9,17,25,13,21,2,8,16,24,12,20,6,10,18,26,14,22],kb:=[0,1],pl:=[.slot 5 zf zJ,.slot 4 zf .bool],ex:=[(.ret,[]),(.exit 0,[])],pay:=.unit })]
def tZ:Sg:=⟨[(zt,T7),(zt,T7)],[(zf,.bool)],YC⟩
theorem AAq:tQ qD wW 176 tZ:=fun _=>by kernel_rfl
def qG:tL:=(176,tZ)::qD
theorem qH:tO qG:=Tb qE AAq
def wR:tA:=[(171,3,3,.loop { keep:=[0,1,4],kb:=[],pl:=[.slot 5 zf zJ,.slot 6 zf zJ],ex:=[(.exit 0,[])],pay:=.unit })]
def tU:Sg:=⟨[(zf,(.sl zf (.sl zt T2))),(zf,(.sl zf zJ))],[zI],XC⟩
theorem AAl:tQ qG wR 171 tU:=fun _=>by kernel_rfl
def qI:tL:=(171,tU)::qG
theorem qK:tO qI:=Tb qH AAl
def wQ:tA:=[(170,7,21,.loop { keep:=[0,1,15,23,11,27,5,17,25,13,21,4,16,24,12,18,26,14,22],kb:=[0],pl:=[.slot 3 zf zJ,.slot 2 zf zJ,.slot 6 zf zJ],ex:=[(.ret,[]),(.exit 0,[])],pay:=.unit }),(170,15,38,.loop { keep:=[0,1,7,15,63,23,11,67,27,59,5,17,65,25,57,13,21,69,61,4,16,64,24,56,12,68,60,6,18,66,26,58,14,22,70,62],kb:=[0],pl:=[.slot 3 zf zJ,.slot 2 zf zJ,.slot 8 zf zJ],ex:=[(.ret,[]),(.exit 2,[])],pay:=.unit })]
def tR:Sg:=⟨[(zt,T9)],[zI,zI],XB⟩
theorem AAk:tQ qI wQ 170 tR:=fun _=>by kernel_rfl
def qN:tL:=(170,tR)::qI
theorem qO:tO qN:=Tb qK AAk
def wH:tA:=[(133,3,4,.loop { keep:=[0,1,2],kb:=[0],pl:=[.slot 3 zf zJ,.slot 4 zf zJ],ex:=[(.exit 0,[])],pay:=.unit })]
def si:Sg:=⟨[(zt,gL)],[zI],Xf⟩
theorem AAT:tQ qN wH 133 si:=fun _=>by kernel_rfl
def qP:tL:=(133,si)::qN
theorem qQ:tO qP:=Tb qO AAT
def wI:tA:=[(135,7,18,.loop { keep:=[0,15,11,19,5,17,13,16,12,20,6,14],kb:=[],pl:=[.srow 3 zf zJ zf,.srow 7 zt T2 zf,.srow 2 zt T2 zf,.slot 4 zf zJ,.srow 8 zf zJ zf,.srow 9 zf zJ zt],ex:=[(.ret,[])],pay:=.unit,plx:=[.srow 3 zf zJ zf,.srow 2 zt T2 zf,.slot 4 zf zJ] })]
def sq:Sg:=⟨[(zf,(.sl zf (.sl zt T2)))],[(zf,(.sl zt T2)),(zf,(.sl zf zJ)),zI],Xy⟩
theorem AAV:tQ qP wI 135 sq:=fun _=>by kernel_rfl
def qR:tL:=(135,sq)::qP
theorem qT:tO qR:=Tb qQ AAV
def uD:Sg:=⟨[(zt,qu)],[zI],YY⟩
theorem ABC:tQ qR [] 228 uD:=fun _=>by kernel_rfl
def qU:tL:=(228,uD)::qR
theorem qV:tO qU:=Tb qT ABC
def tz:Sg:=⟨[(zt,qu),(zt,T2)],[(zf,.bool),(zt,qu),zI],Yy⟩
theorem AA2:tQ qU [] 204 tz:=fun _=>by kernel_rfl
def qX:tL:=(204,tz)::qU
theorem qY:tO qX:=Tb qV AA2
def wU:tA:=[(174,6,12,.loop { keep:=[0,1,7,15,17,13,16,14],kb:=[],pl:=[.slot 5 zf zJ,.slot 9 zf zJ,.srow 4 zt T2 zf,.srow 8 zt T2 zf,.slot 6 zf zJ,.box 8 [.lf .bool,.lf .str,.lf .bool]],ex:=[(.ret,[]),(.exit 0,[])],pay:=.unit })]
def tX:Sg:=⟨[(zf,(.sl zt T2)),(zf,.bool)],[(zf,(.sl zt T2)),zI,zI],YE⟩
theorem AAo:tQ qX wU 174 tX:=fun _=>by kernel_rfl
def qZ:tL:=(174,tX)::qX
theorem qc:tO qZ:=Tb qY AAo
end Go.Proofs.YtoefnfbpoabinaaGreatDoor.Pt
