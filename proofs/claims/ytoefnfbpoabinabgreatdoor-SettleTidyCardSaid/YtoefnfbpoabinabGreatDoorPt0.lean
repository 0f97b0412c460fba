/- The evaluator comes to each of the plain functions. No condition. -/
import Derived.Test.YtoefnfbpoabinabGreatDoorPl5
import Derived.Test.YtoefnfbpoabinabGreatDoorPc1
import Derived.Test.YtoefnfbpoabinabGreatDoorProg
set_option linter.all false
open Bool renaming true->zt, false->zf
namespace Go.Proofs.YtoefnfbpoabinabGreatDoor.Pt
open Go Sv Pl
set_option maxRecDepth 1000000
def pu(g:Nat):Bool:=[2,3,4,5,6,7,8,9,10,11,12,13,14,15,16,17,18,19,20,21,22,23,28,29,30,31,33,34,35,36,37,38,39,40,43,46,48,49,50,51,52,53,54,55,56,57,58,59,60,61,62,64,66,67,68,69,70,72,74,75,76,77,79,80,81,83,84,86,87,88,89,90,91,92,93,94,96,97,98,99,102,103,104,105,106,115,116,117,118,119,125,126,127,128,129,130,131,132,133,134,135,136,137,138,139,142,143,144,148,149,150,152,156,157,167,168,169,170,171,172,174,175,176,177,178,179,180,181,184,185,188,189,190,191,192,193,194,196,197,198,199,207,208,209,210,211,212,213,214,215,216,217,218,220,221,222,223,224,225,226,227,228,229,230,231,232,237,273,274,275,283].any (Nat.beq g)||Nat.ble 1048576 g
@[reducible] def zJ:Ty:=.int .i64
@[reducible] def zI:Bool×Ty:=(zf,zJ)
@[reducible] def T0:Ty:=.pair .bool zJ
@[reducible] def T1:Ty:=.pair .str T0
@[reducible] def T2:Ty:=.pair .str T1
@[reducible] def T3:Ty:=.pair zJ (.sl zt T2)
@[reducible] def T4:Ty:=.pair zJ (.sl zt (.sl zt T3))
@[reducible] def T5:Ty:=.pair .str .bool
@[reducible] def T6:Ty:=.pair (.sl zf zJ) zJ
@[reducible] def T7:Ty:=.pair (.sl zt T5) T6
@[reducible] def T8:Ty:=.pair (.sl zf zJ) T7
@[reducible] def T9:Ty:=.pair (.sl zf (.sl zt T2)) T8
@[reducible] def yZ:Ty:=.pair .bool T5
@[reducible] def T11:Ty:=.pair (.sl zt T2) zJ
@[reducible] def T12:Ty:=.pair yZ T11
@[reducible] def t9:Ty:=.pair T9 T12
@[reducible] def dM:Ty:=.pair zJ t9
@[reducible] def T15:Ty:=.pair (.sl zt dM) zJ
@[reducible] def dW:Ty:=.pair T4 T15
@[reducible] def gm:Ty:=.pair T3 dW
@[reducible] def T18:Ty:=.pair (.sl zt T5) .unit
@[reducible] def T19:Ty:=.pair dM zJ
@[reducible] def yc:Ty:=.pair dW T19
abbrev tL:=List (FuncId×Sg)
abbrev tA:=List (Nat×Nat×Nat×An)
abbrev tO(L:tL):Prop:=TabOK Tryz.prog (Af pu L)
abbrev tQ(L:tL)(a:tA)(f:Nat)(s:Sg):Prop:=∀ x,ND Tryz.prog (Af pu L) (R3 a) 3000 60 f s.dom s.cod x=s.fn x
def j0:tL:=[]
theorem gW:tO j0:=UB _ _
def wj:tA:=[(18,3,4,.loop { keep:=[0,1],kb:=[0],pl:=[.slot 3 zf zJ,.slot 2 zf .bool,.slot 4 zf zJ],ex:=[(.exit 0,[]),(.ret,[])],pay:=.unit }),(18,6,15,.loop { keep:=[0,1,15,19,17,13,21,4,16,12,20,18,14],kb:=[0],pl:=[.slot 3 zf zJ,.slot 5 zf zJ,.slot 2 zf .bool],ex:=[(.exit 2,[]),(.ret,[])],pay:=.unit }),(18,11,47,.loop { keep:=[0,1,3,15,31,47,19,35,51,27,43,5,17,33,49,25,41,13,21,37,53,29,45,4,16,32,48,24,40,12,20,36,52,28,44,6,18,34,50,26,42,14,54,30,46],kb:=[0],pl:=[.slot 7 zf zJ,.slot 2 zf .bool],ex:=[(.ret,[]),(.exit 4,[])],pay:=.unit }),(18,18,5,.loop { keep:=[0,1,3,4],kb:=[0],pl:=[.slot 2 zf .bool,.slot 8 zf zJ],ex:=[(.ret,[]),(.exit 6,[])],pay:=.unit }),(18,25,55,.loop { keep:=[0,1,3,127,95,111,135,103,119,131,115,107,91,123,9,129,97,113,137,105,121,133,101,117,109,93,125,2,4,8,128,96,112,136,104,120,132,116,108,92,124,130,98,114,106,90,122,134,102,118,110,94,126],kb:=[0,20],pl:=[.slot 11 zf zJ,.slot 10 zf zJ],ex:=[(.exit 8,[])],pay:=.unit })]
def AAu:Sg:=⟨[(zt,dW)],[(zf,.bool)],ZJ⟩
theorem e18:tQ j0 wj 18 AAu:=fun _=>by kernel_rfl
def j7:tL:=(18,AAu)::j0
theorem gX:tO j7:=Tb gW e18
def an5:tA:=[(5,2,3,.loop { keep:=[0,1],kb:=[0],pl:=[.slot 3 zf zJ,.slot 2 zf .bool],ex:=[(.ret,[]),(.exit 0,[])],pay:=.unit })]
def sg5:Sg:=⟨[(zt,gm)],[(zf,.bool)],ay⟩
theorem e5:tQ j7 an5 5 sg5:=fun _=>by kernel_rfl
def kS:tL:=(5,sg5)::j7
theorem gY:tO kS:=Tb gX e5
def sg6:Sg:=⟨[],[(zf,.bool)],W9⟩
theorem e6:tQ kS [] 6 sg6:=fun _=>by kernel_rfl
def kT:tL:=(6,sg6)::kS
theorem gZ:tO kT:=Tb gY e6
def vN:Sg:=⟨[(zf,.str)],[zI],XT⟩
theorem w7:tQ kT [] 139 vN:=fun _=>by kernel_rfl
def kU:tL:=(139,vN)::kT
theorem ga:tO kU:=Tb gZ w7
def ABS:Sg:=⟨[(zt,T2)],[zI],Vx⟩
theorem e98:tQ kU [] 98 ABS:=fun _=>by kernel_rfl
def kV:tL:=(98,ABS)::kU
theorem gb:tO kV:=Tb ga e98
def AB5:tA:=[(70,6,23,.loop { keep:=[0,1,7,15,23,11,19,9,17,25,13,21,8,16,24,12,20,10,18,14,22],kb:=[0],pl:=[.slot 3 zf zJ,.slot 2 zf zJ,.slot 26 zf zJ],ex:=[(.ret,[]),(.exit 1,[])],pay:=.unit })]
def ABH:Sg:=⟨[(zt,T3)],[zI,zI],XG⟩
theorem e70:tQ kV AB5 70 ABH:=fun _=>by kernel_rfl
def kW:tL:=(70,ABH)::kV
theorem gf:tO kW:=Tb gb e70
def yy:tA:=[(169,4,8,.loop { keep:=[0,7,11,9,8,10],kb:=[],pl:=[.slot 3 zf zJ,.slot 2 zf zJ,.slot 12 zf zJ],ex:=[(.ret,[]),(.exit 0,[])],pay:=.unit })]
def vX:Sg:=⟨[(zf,(.sl zt T2))],[zI,zI],Vq⟩
theorem ACa:tQ kW yy 169 vX:=fun _=>by kernel_rfl
def kX:tL:=(169,vX)::kW
theorem gh:tO kX:=Tb gf ACa
def vG:Sg:=⟨[(zt,T3)],[zI,zI],Yt⟩
theorem ACM:tQ kX [] 126 vG:=fun _=>by kernel_rfl
def kY:tL:=(126,vG)::kX
theorem gi:tO kY:=Tb gh ACM
def ABM:Sg:=⟨[(zt,T3),zI],[zI],XB⟩
theorem e81:tQ kY [] 81 ABM:=fun _=>by kernel_rfl
def mz:tL:=(81,ABM)::kY
theorem gj:tO mz:=Tb gi e81
def AB1:tA:=[(62,8,26,.loop { keep:=[0,1,15,23,11,19,27,5,17,25,13,21,29,16,24,12,20,28,18,26,14,22],kb:=[0],pl:=[.slot 3 zf zJ,.slot 2 zf zJ,.slot 4 zf zJ,.slot 30 zf zJ,.map 18 zJ zf .bool],ex:=[(.exit 1,[])],pay:=.unit }),(62,14,44,.loop { keep:=[0,1,7,15,31,23,39,11,19,35,27,5,17,33,25,41,13,21,37,29,2,16,32,24,40,12,20,36,28,6,18,34,26,42,14,22,38,30],kb:=[0,30],pl:=[.slot 3 zf zJ,.slot 43 zf zJ,.slot 4 zf zJ,.map 18 zJ zf .bool],ex:=[(.exit 1,[]),(.exit 3,[])],pay:=.unit })]
def ABB:Sg:=⟨[(zt,T4)],[zI,zI,zI],WV⟩
theorem e62:tQ mz AB1 62 ABB:=fun _=>by kernel_rfl
def oe:tL:=(62,ABB)::mz
theorem og:tO oe:=Tb gj e62
def ACD:tA:=[(99,2,6,.loop { keep:=[0,1,7,9,8],kb:=[0],pl:=[.slot 2 zf zJ,.slot 10 zf zJ],ex:=[(.exit 0,[])],pay:=.unit }),(99,5,15,.loop { keep:=[0,1,7,15,11,9,13,4,8,16,12,10,14],kb:=[0,9],pl:=[.slot 17 zf zJ,.slot 2 zf zJ],ex:=[(.exit 2,[])],pay:=.unit })]
def ABT:Sg:=⟨[(zt,T4)],[zI],YV⟩
theorem e99:tQ oe ACD 99 ABT:=fun _=>by kernel_rfl
def oh:tL:=(99,ABT)::oe
theorem om:tO oh:=Tb og e99
def u7:Sg:=⟨[(zt,T4),zI],[(zf,.bool)],W8⟩
theorem ACE:tQ oh [] 102 u7:=fun _=>by kernel_rfl
def oq:tL:=(102,u7)::oh
theorem ot:tO oq:=Tb om ACE
def zD:tA:=[(193,6,13,.loop { keep:=[0,15,11,9,17,13,8,16,12,10,14],kb:=[],pl:=[.slot 3 zf zJ,.slot 2 zf zJ,.slot 18 zf zJ],ex:=[(.ret,[]),(.exit 1,[])],pay:=.unit })]
def vz:Sg:=⟨[(zf,(.sl zf (.sl zt T2)))],[zI,zI],Xd⟩
theorem ACo:tQ oq zD 193 vz:=fun _=>by kernel_rfl
def ou:tL:=(193,vz)::oq
theorem ov:tO ou:=Tb ot ACo
end Go.Proofs.YtoefnfbpoabinabGreatDoor.Pt
