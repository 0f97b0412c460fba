/- The evaluator comes to each of the plain functions. No condition. -/
import Derived.Test.YtfipnhjfbebeiaaGreatDoorPl4
import Derived.Test.YtfipnhjfbebeiaaGreatDoorPg0
import Derived.Test.YtfipnhjfbebeiaaGreatDoorProg
set_option linter.all false
namespace Go.Proofs.YtfipnhjfbebeiaaGreatDoor.Pt
open Go Sv Pl
set_option maxRecDepth 1000000
def pu (g:Nat):Bool:=[2,3,4,5,6,7,8,9,10,11,12,13,14,15,16,17,18,19,20,21,22,23,24,25,26,27,28,29,30,31,32,33,34,35,36,37,38,39,40,41,42,43,44,45,46,47,48,51,52,53,54,55,60,61,62,63,64,65,66,67,68,69,71,72,73,74,75,76,77,78,79,80,81,82,83,86,87,88,92,93,94,104,105,106,107,108,110,111,112,113,114,115,116,117,118,119,120,121,125,127,128,129,130,131,132,133,134,135,136,139,140,141,142,143,146,147,148,150,151,152,153,154,162,163,164,165,166,167,168,169,170,171,172,173,174,175,176,177,179,180,181,182,183,184,185,186,187,188,189,190,191,192,193,194,196,197,198,200,201,202,204,239,240,241,249].any (Nat.beq g)||Nat.ble 1048576 g
@[reducible] def zJ:Ty:=.int .i64
@[reducible] def zI:Bool×Ty:=(false,zJ)
@[reducible] def T0:Ty:=.pair .bool zJ
@[reducible] def T1:Ty:=.pair .str T0
@[reducible] def T2:Ty:=.pair .str T1
@[reducible] def T3:Ty:=.pair zJ (.sl true T2)
@[reducible] def T4:Ty:=.pair zJ (.sl true (.sl true T3))
@[reducible] def T5:Ty:=.pair .str .bool
@[reducible] def T6:Ty:=.pair (.sl false zJ) zJ
@[reducible] def T7:Ty:=.pair (.sl true T5) T6
@[reducible] def T8:Ty:=.pair (.sl false zJ) T7
@[reducible] def T9:Ty:=.pair (.sl false (.sl true T2)) T8
@[reducible] def pn:Ty:=.pair .bool T5
@[reducible] def T11:Ty:=.pair (.sl true T2) zJ
@[reducible] def T12:Ty:=.pair pn T11
@[reducible] def dl:Ty:=.pair T9 T12
@[reducible] def ZL:Ty:=.pair zJ dl
@[reducible] def T15:Ty:=.pair (.sl true ZL) zJ
@[reducible] def XL:Ty:=.pair T4 T15
@[reducible] def wx:Ty:=.pair (.sl true T5) .unit
@[reducible] def T18:Ty:=.pair ZL zJ
@[reducible] def uN:Ty:=.pair XL T18
abbrev tL:=List (FuncId×Sg)
abbrev tA:=List (Nat×Nat×Nat×An)
abbrev tO (L:tL):Prop:=TabOK Tryz.prog (Ae pu L)
abbrev tE (L:tL) (a:tA) (f:Nat) (s:Sg):Prop:=∀ x,OU Tryz.prog (Ae pu L) (RM a) 3000 60 f s.dom s.cod x=s.fn x
def t5:tL:=[]
theorem qZ:tO t5:=Sq _ _
def w8:tA:=[(19,2,2,.loop { keep:=[0],kb:=[],pl:=[.slot 3 false zJ,.slot 2 false .bool],ex:=[(.ret,[]),(.exit 0,[])],pay:=.unit })]
def vT:Sg:=⟨[(false,(.sl true T2))],[(false,.bool)],Va⟩
theorem e19:tE t5 w8 19 vT:=fun _=>by kernel_rfl
def t6:tL:=(19,vT)::t5
theorem qc:tO t6:=SY qZ e19
def xg:tA:=[(81,2,2,.loop { keep:=[0],kb:=[],pl:=[.slot 3 false zJ,.slot 2 false .bool],ex:=[(.ret,[]),(.exit 0,[])],pay:=.unit })]
def we:Sg:=⟨[(false,(.sl true T2))],[(false,.bool)],W2⟩
theorem e81:tE t6 xg 81 we:=fun _=>by kernel_rfl
def t7:tL:=(81,we)::t6
theorem qd:tO t7:=SY qc e81
def xL:tA:=[(44,2,2,.loop { keep:=[0],kb:=[],pl:=[.slot 3 false zJ,.slot 2 false .bool],ex:=[(.ret,[]),(.exit 0,[])],pay:=.unit })]
def v9:Sg:=⟨[(false,(.sl true T3))],[(false,.bool)],Vn⟩
theorem e44:tE t7 xL 44 v9:=fun _=>by kernel_rfl
def t8:tL:=(44,v9)::t7
theorem qf:tO t8:=SY qd e44
def w9:tA:=[(20,2,3,.loop { keep:=[0,1],kb:=[0],pl:=[.slot 3 false zJ,.slot 2 false .bool],ex:=[(.ret,[]),(.exit 0,[])],pay:=.unit })]
def vU:Sg:=⟨[(true,T4)],[(false,.bool)],Xp⟩
theorem e20:tE t8 w9 20 vU:=fun _=>by kernel_rfl
def t9:tL:=(20,vU)::t8
theorem qg:tO t9:=SY qf e20
def an5:tA:=[(5,2,3,.loop { keep:=[0,1],kb:=[0],pl:=[.slot 3 false zJ,.slot 2 false .bool],ex:=[(.exit 0,[]),(.ret,[])],pay:=.unit }),(5,6,21,.loop { keep:=[0,1,3,7,11,19,9,17,13,21,4,8,12,20,6,10,18,14,22],kb:=[0,18],pl:=[.slot 5 false zJ,.slot 2 false .bool],ex:=[(.ret,[]),(.exit 2,[])],pay:=.unit })]
def sg5:Sg:=⟨[(true,XL)],[(false,.bool)],Xq⟩
theorem e5:tE t9 an5 5 sg5:=fun _=>by kernel_rfl
def uC:tL:=(5,sg5)::t9
theorem qh:tO uC:=SY qg e5
def xM:tA:=[(45,3,6,.loop { keep:=[0,1,7,9,2,6,10],kb:=[0],pl:=[.slot 8 false zJ,.box 3 [.lf zJ,.ow true T2 false]],ex:=[(.exit 0,[])],pay:=.unit })]
def wA:Sg:=⟨[zI,(false,.bool),(false,.str)],[(true,T3)],ZX⟩
theorem e45:tE uC xM 45 wA:=fun _=>by kernel_rfl
def uD:tL:=(45,wA)::uC
theorem qi:tO uD:=SY qh e45
def vW:Sg:=⟨[],[(true,T4)],Yt⟩
theorem e22:tE uD [] 22 vW:=fun _=>by kernel_rfl
def uF:tL:=(22,vW)::uD
theorem qj:tO uF:=SY qi e22
def xW:tA:=[(68,2,2,.loop { keep:=[1,4],kb:=[],pl:=[.slot 0 false zJ,.slot 5 false zJ],ex:=[(.exit 0,[])],pay:=.unit })]
def wR:Sg:=⟨[zI,zI],[zI],Vw⟩
theorem e68:tE uF xW 68 wR:=fun _=>by kernel_rfl
def uG:tL:=(68,wR)::uF
theorem qk:tO uG:=SY qj e68
def sS:Sg:=⟨[(true,T2)],[zI],V7⟩
theorem zB:tE uG [] 167 sS:=fun _=>by kernel_rfl
def uH:tL:=(167,sS)::uG
theorem ql:tO uH:=SY qk zB
def us:tA:=[(188,2,2,.loop { keep:=[0,1,4],kb:=[],pl:=[.slot 5 false zJ],ex:=[(.exit 0,[])],pay:=.unit })]
def tB:Sg:=⟨[(false,.str),(false,.str)],[zI],W7⟩
theorem zb:tE uH us 188 tB:=fun _=>by kernel_rfl
def lC:tL:=(188,tB)::uH
theorem lD:tO lC:=SY ql zb
def sT:Sg:=⟨[(false,.str),(false,.str)],[zI],Wg⟩
theorem zC:tE lC [] 168 sT:=fun _=>by kernel_rfl
def lE:tL:=(168,sT)::lC
theorem lF:tO lE:=SY lD zC
def uf:tA:=[(141,4,6,.loop { keep:=[0,7,8,6],kb:=[],pl:=[.slot 3 false zJ,.slot 2 false zJ,.slot 4 false zJ],ex:=[(.ret,[]),(.exit 0,[])],pay:=.unit })]
def ry:Sg:=⟨[(false,(.sl true T2))],[zI,zI],Vb⟩
theorem yd:tE lE uf 141 ry:=fun _=>by kernel_rfl
def lG:tL:=(141,ry)::lE
theorem lH:tO lG:=SY lF yd
def rH:Sg:=⟨[(true,T3)],[zI,zI],XY⟩
theorem yD:tE lG [] 111 rH:=fun _=>by kernel_rfl
def lI:tL:=(111,rH)::lG
theorem lJ:tO lI:=SY lH yD
end Go.Proofs.YtfipnhjfbebeiaaGreatDoor.Pt
