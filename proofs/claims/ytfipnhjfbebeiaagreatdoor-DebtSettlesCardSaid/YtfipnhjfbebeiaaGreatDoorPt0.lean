/- The evaluator comes to each of the plain functions. No condition. -/
import Derived.Test.YtfipnhjfbebeiaaGreatDoorPl4
import Derived.Test.YtfipnhjfbebeiaaGreatDoorPg0
import Derived.Test.YtfipnhjfbebeiaaGreatDoorProg
set_option linter.all false
namespace Go.Proofs.YtfipnhjfbebeiaaGreatDoor.Pt
open Go Sv Pl
set_option maxRecDepth 1000000
def pu (g:Nat):Bool:=[2,3,4,5,6,7,8,9,10,11,12,13,14,15,16,17,18,19,20,21,22,23,24,25,26,27,28,29,30,31,32,33,34,35,36,37,38,39,40,41,42,43,44,45,46,47,48,51,52,53,54,55,60,61,62,63,64,65,66,67,68,69,71,72,73,74,75,76,77,78,79,80,81,82,83,86,87,88,92,93,94,104,105,106,107,108,110,111,112,113,114,115,116,117,118,119,120,121,125,127,128,129,130,131,132,133,134,135,136,139,140,141,142,143,146,147,148,150,151,152,153,154,162,163,164,165,166,167,168,169,170,171,172,173,174,175,176,177,179,180,181,182,183,184,185,186,187,188,189,190,191,192,193,194,196,197,198,200,201,202,204,239,240,241,249].any (Nat.beq g)||Nat.ble 1048576 g
@[reducible] def zJ:Ty:=.int .i64
@[reducible] def zI:Bool×Ty:=(false,zJ)
@[reducible] def T0:Ty:=.pair .bool zJ
@[reducible] def T1:Ty:=.pair .str T0
@[reducible] def T2:Ty:=.pair .str T1
@[reducible] def T3:Ty:=.pair zJ (.sl true T2)
@[reducible] def T4:Ty:=.pair zJ (.sl true (.sl true T3))
@[reducible] def T5:Ty:=.pair .str .bool
@[reducible] def T6:Ty:=.pair (.sl false zJ) zJ
@[reducible] def T7:Ty:=.pair (.sl true T5) T6
@[reducible] def T8:Ty:=.pair (.sl false zJ) T7
@[reducible] def T9:Ty:=.pair (.sl false (.sl true T2)) T8
@[reducible] def pA:Ty:=.pair .bool T5
@[reducible] def zT:Ty:=.pair (.sl true T2) zJ
@[reducible] def zV:Ty:=.pair pA zT
@[reducible] def dy:Ty:=.pair T9 zV
@[reducible] def Z5:Ty:=.pair zJ dy
@[reducible] def zW:Ty:=.pair (.sl true Z5) zJ
@[reducible] def Yu:Ty:=.pair T4 zW
@[reducible] def wE:Ty:=.pair (.sl true T5) .unit
@[reducible] def zX:Ty:=.pair Z5 zJ
@[reducible] def tZ:Ty:=.pair Yu zX
abbrev tL:=List (FuncId×Sg)
abbrev tA:=List (Nat×Nat×Nat×An)
abbrev tO (L:tL):Prop:=TabOK Tryz.prog (Ae pu L)
abbrev tE (L:tL) (a:tA) (f:Nat) (s:Sg):Prop:=∀ x,OU Tryz.prog (Ae pu L) (RM a) 3000 60 f s.dom s.cod x=s.fn x
def tG:tL:=[]
theorem px:tO tG:=Sq _ _
def wh:tA:=[(68,2,2,.loop { keep:=[1,4],kb:=[],pl:=[.slot 0 false zJ,.slot 5 false zJ],ex:=[(.exit 0,[])],pay:=.unit })]
def vW:Sg:=⟨[zI,zI],[zI],Vy⟩
theorem e68:tE tG wh 68 vW:=fun _=>by kernel_rfl
def tH:tL:=(68,vW)::tG
theorem py:tO tH:=SY px e68
def rN:Sg:=⟨[(true,T2)],[zI],V6⟩
theorem x0:tE tH [] 167 rN:=fun _=>by kernel_rfl
def tI:tL:=(167,rN)::tH
theorem pz:tO tI:=SY py x0
def uJ:tA:=[(188,2,2,.loop { keep:=[0,1,4],kb:=[],pl:=[.slot 5 false zJ],ex:=[(.exit 0,[])],pay:=.unit })]
def ry:Sg:=⟨[(false,.str),(false,.str)],[zI],W7⟩
theorem yT:tE tI uJ 188 ry:=fun _=>by kernel_rfl
def tJ:tL:=(188,ry)::tI
theorem p8:tO tJ:=SY pz yT
def rO:Sg:=⟨[(false,.str),(false,.str)],[zI],Wb⟩
theorem yA:tE tJ [] 168 rO:=fun _=>by kernel_rfl
def tK:tL:=(168,rO)::tJ
theorem p9:tO tK:=SY p8 yA
def t5:tA:=[(141,4,6,.loop { keep:=[0,7,8,6],kb:=[],pl:=[.slot 3 false zJ,.slot 2 false zJ,.slot 4 false zJ],ex:=[(.ret,[]),(.exit 0,[])],pay:=.unit })]
def qy:Sg:=⟨[(false,(.sl true T2))],[zI,zI],Ve⟩
theorem xV:tE tK t5 141 qy:=fun _=>by kernel_rfl
def tM:tL:=(141,qy)::tK
theorem qA:tO tM:=SY p9 xV
def qX:Sg:=⟨[(true,T3)],[zI,zI],XU⟩
theorem w8:tE tM [] 111 qX:=fun _=>by kernel_rfl
def tN:tL:=(111,qX)::tM
theorem qB:tO tN:=SY qA w8
def wg:tA:=[(67,9,21,.loop { keep:=[0,1,3,7,15,23,11,19,25,13,21,2,8,16,24,12,20,10,18,26,14,22],kb:=[0],pl:=[.slot 9 false zJ,.slot 6 false zJ],ex:=[(.ret,[]),(.exit 0,[])],pay:=.unit })]
def vV:Sg:=⟨[(true,T3),zI,(false,(.sl false zJ))],[zI],WS⟩
theorem e67:tE tN wg 67 vV:=fun _=>by kernel_rfl
def tQ:tL:=(67,vV)::tN
theorem qC:tO tQ:=SY qB e67
def wQ:tA:=[(32,7,18,.loop { keep:=[0,1,15,11,19,17,13,21,16,12,20,10,18,14],kb:=[0],pl:=[.slot 3 false zJ,.srow 5 false zJ false,.slot 2 false zJ,.slot 4 false zJ,.slot 6 false zJ],ex:=[(.ret,[]),(.exit 0,[])],pay:=.unit }),(32,13,35,.loop { keep:=[0,1,7,15,31,23,11,19,35,17,33,25,13,21,37,29,16,32,24,12,20,36,6,10,18,34,26,14,22,30],kb:=[0],pl:=[.slot 3 false zJ,.srow 5 false zJ false,.slot 2 false zJ,.slot 4 false zJ,.slot 8 false zJ],ex:=[(.ret,[]),(.exit 2,[])],pay:=.unit })]
def u3:Sg:=⟨[(true,T4)],[zI,zI,zI],U4⟩
theorem zx:tE tQ wQ 32 u3:=fun _=>by kernel_rfl
def tR:tL:=(32,u3)::tQ
theorem qD:tO tR:=SY qC zx
def wV:tA:=[(42,6,16,.loop { keep:=[0,1,3,15,11,5,17,13,2,4,16,12,6,10,14],kb:=[0],pl:=[.srow 7 true T3 false,.slot 8 false zJ],ex:=[(.exit 0,[])],pay:=.unit }),(42,9,31,.loop { keep:=[0,1,3,15,31,23,11,19,27,5,17,33,13,21,29,2,4,8,16,32,12,20,28,6,10,26,14,22,30],kb:=[0],pl:=[.srow 7 true T3 false,.slot 9 false zJ],ex:=[(.exit 2,[])],pay:=.unit })]
def vF:Sg:=⟨[(true,T4)],[(false,(.sl true T3)),zI],WJ⟩
theorem e42:tE tR wV 42 vF:=fun _=>by kernel_rfl
def tU:tL:=(42,vF)::tR
theorem qE:tO tU:=SY qD e42
def wR:tA:=[(33,4,11,.loop { keep:=[0,1,3,7,11,9,2,4,8,10],kb:=[0],pl:=[.slot 5 false zJ,.slot 6 false zJ],ex:=[(.exit 0,[])],pay:=.unit })]
def u4:Sg:=⟨[(true,T4)],[zI],VS⟩
theorem zy:tE tU wR 33 u4:=fun _=>by kernel_rfl
def kS:tL:=(33,u4)::tU
theorem kT:tO kS:=SY qE zy
def wS:tA:=[(34,3,4,.loop { keep:=[0,1,2],kb:=[0],pl:=[.srow 3 false zJ false,.slot 4 false zJ],ex:=[(.exit 0,[])],pay:=.unit })]
def u5:Sg:=⟨[(true,T4)],[(false,(.sl false zJ))],Ui⟩
theorem zz:tE kS wS 34 u5:=fun _=>by kernel_rfl
def kU:tL:=(34,u5)::kS
theorem kV:tO kU:=SY kT zz
def qY:Sg:=⟨[(true,T4),zI],[zI],Yj⟩
theorem w9:tE kU [] 112 qY:=fun _=>by kernel_rfl
def kW:tL:=(112,qY)::kU
theorem kX:tO kW:=SY kV w9
def vX:Sg:=⟨[(true,T4),zI],[(false,.bool),zI],YN⟩
theorem e69:tE kW [] 69 vX:=fun _=>by kernel_rfl
def kY:tL:=(69,vX)::kW
theorem kZ:tO kY:=SY kX e69
end Go.Proofs.YtfipnhjfbebeiaaGreatDoor.Pt
