/- The evaluator comes to each of the plain functions. No condition. -/
import Derived.Test.YtoefnfbpoabinaaGreatDoorPl5
import Derived.Test.YtoefnfbpoabinaaGreatDoorPc1
import Derived.Test.YtoefnfbpoabinaaGreatDoorProg
set_option linter.all false
open Bool renaming true->zt, false->zf
namespace Go.Proofs.YtoefnfbpoabinaaGreatDoor.Pt
open Go Sv Pl
set_option maxRecDepth 1000000
def pu(g:Nat):Bool:=[2,3,4,5,6,7,8,9,10,11,12,13,14,15,16,17,18,19,20,21,22,23,24,25,26,27,28,29,30,32,33,38,39,40,41,42,43,44,45,46,47,50,53,55,56,57,58,59,60,62,64,65,66,67,68,70,71,72,73,74,76,77,78,79,80,81,83,85,86,87,88,89,90,91,92,93,95,97,98,100,101,102,103,104,105,106,107,108,109,110,113,114,115,116,117,126,127,128,129,130,131,132,133,134,135,136,137,138,139,145,146,147,148,149,150,151,154,155,156,160,161,162,164,168,169,170,171,172,173,174,175,176,177,187,188,189,190,191,193,194,195,196,197,198,199,200,203,204,205,206,209,210,211,212,213,215,216,217,218,226,227,228,229,230,231,232,233,234,235,236,237,238,239,240,241,242,243,244,246,247,248,249,250,251,252,253,254,255,256,257,258,259,260,261,262,264,267,269,305,306,307,315].any (Nat.beq g)||Nat.ble 1048576 g
@[reducible] def zJ:Ty:=.int .i64
@[reducible] def zI:Bool×Ty:=(zf,zJ)
@[reducible] def T0:Ty:=.pair .bool zJ
@[reducible] def T1:Ty:=.pair .str T0
@[reducible] def T2:Ty:=.pair .str T1
@[reducible] def T3:Ty:=.pair zJ (.sl zt T2)
@[reducible] def T4:Ty:=.pair zJ (.sl zt (.sl zt T3))
@[reducible] def T5:Ty:=.pair .str .bool
@[reducible] def T6:Ty:=.pair (.sl zf zJ) zJ
@[reducible] def T7:Ty:=.pair (.sl zt T5) T6
@[reducible] def T8:Ty:=.pair (.sl zf zJ) T7
@[reducible] def T9:Ty:=.pair (.sl zf (.sl zt T2)) T8
@[reducible] def rB:Ty:=.pair .bool T5
@[reducible] def T11:Ty:=.pair (.sl zt T2) zJ
@[reducible] def T12:Ty:=.pair rB T11
@[reducible] def gf:Ty:=.pair T9 T12
@[reducible] def zC:Ty:=.pair zJ gf
@[reducible] def T15:Ty:=.pair (.sl zt zC) zJ
@[reducible] def y9:Ty:=.pair T4 T15
@[reducible] def jG:Ty:=.pair T3 y9
@[reducible] def zD:Ty:=.pair (.sl zt T5) .unit
abbrev tL:=List (FuncId×Sg)
abbrev tA:=List (Nat×Nat×Nat×An)
abbrev tO(L:tL):Prop:=TabOK Tryz.prog (Af pu L)
abbrev tQ(L:tL)(a:tA)(f:Nat)(s:Sg):Prop:=∀ x,NV Tryz.prog (Af pu L) (SO a) 3000 60 f s.dom s.cod x=s.fn x
def iU:tL:=[]
theorem fE:tO iU:=Uc _ _
def uh:tA:=[(22,3,4,.loop { keep:=[0,1],kb:=[0],pl:=[.slot 3 zf zJ,.slot 2 zf .bool,.slot 4 zf zJ],ex:=[(.exit 0,[]),(.ret,[])],pay:=.unit }),(22,6,15,.loop { keep:=[0,1,15,19,17,13,21,4,16,12,20,18,14],kb:=[0],pl:=[.slot 3 zf zJ,.slot 5 zf zJ,.slot 2 zf .bool],ex:=[(.exit 2,[]),(.ret,[])],pay:=.unit }),(22,11,47,.loop { keep:=[0,1,3,15,31,47,19,35,51,27,43,5,17,33,49,25,41,13,21,37,53,29,45,4,16,32,48,24,40,12,20,36,52,28,44,6,18,34,50,26,42,14,54,30,46],kb:=[0],pl:=[.slot 7 zf zJ,.slot 2 zf .bool],ex:=[(.ret,[]),(.exit 4,[])],pay:=.unit }),(22,18,5,.loop { keep:=[0,1,3,4],kb:=[0],pl:=[.slot 2 zf .bool,.slot 8 zf zJ],ex:=[(.ret,[]),(.exit 6,[])],pay:=.unit }),(22,25,55,.loop { keep:=[0,1,3,127,95,111,135,103,119,131,115,107,91,123,9,129,97,113,137,105,121,133,101,117,109,93,125,2,4,8,128,96,112,136,104,120,132,116,108,92,124,130,98,114,106,90,122,134,102,118,110,94,126],kb:=[0,20],pl:=[.slot 11 zf zJ,.slot 10 zf zJ],ex:=[(.exit 8,[])],pay:=.unit })]
def yH:Sg:=⟨[(zt,y9)],[(zf,.bool)],ZA⟩
theorem e22:tQ iU uh 22 yH:=fun _=>by kernel_rfl
def iV:tL:=(22,yH)::iU
theorem fF:tO iV:=UE fE e22
def zs:tA:=[(6,2,3,.loop { keep:=[0,1],kb:=[0],pl:=[.slot 3 zf zJ,.slot 2 zf .bool],ex:=[(.ret,[]),(.exit 0,[])],pay:=.unit })]
def sg6:Sg:=⟨[(zt,jG)],[(zf,.bool)],ab⟩
theorem e6:tQ iV zs 6 sg6:=fun _=>by kernel_rfl
def i4:tL:=(6,sg6)::iV
theorem fG:tO i4:=UE fF e6
def sg7:Sg:=⟨[],[(zf,.bool)],Yq⟩
theorem e7:tQ i4 [] 7 sg7:=fun _=>by kernel_rfl
def i5:tL:=(7,sg7)::i4
theorem fH:tO i5:=UE fG e7
def tI:Sg:=⟨[(zf,.str)],[zI],XP⟩
theorem ut:tQ i5 [] 151 tI:=fun _=>by kernel_rfl
def i6:tL:=(151,tI)::i5
theorem fI:tO i6:=UE fH ut
def sV:Sg:=⟨[(zt,T2)],[zI],WA⟩
theorem ur:tQ i6 [] 109 sV:=fun _=>by kernel_rfl
def i7:tL:=(109,sV)::i6
theorem fJ:tO i7:=UE fI ur
def AAA:tA:=[(81,6,23,.loop { keep:=[0,1,7,15,23,11,19,9,17,25,13,21,8,16,24,12,20,10,18,14,22],kb:=[0],pl:=[.slot 3 zf zJ,.slot 2 zf zJ,.slot 26 zf zJ],ex:=[(.ret,[]),(.exit 1,[])],pay:=.unit })]
def yh:Sg:=⟨[(zt,T3)],[zI,zI],Xn⟩
theorem e81:tQ i7 AAA 81 yh:=fun _=>by kernel_rfl
def i8:tL:=(81,yh)::i7
theorem fK:tO i8:=UE fJ e81
def wZ:tA:=[(177,4,8,.loop { keep:=[0,7,11,9,8,10],kb:=[],pl:=[.slot 3 zf zJ,.slot 2 zf zJ,.slot 12 zf zJ],ex:=[(.ret,[]),(.exit 0,[])],pay:=.unit })]
def tf:Sg:=⟨[(zf,(.sl zt T2))],[zI,zI],V2⟩
theorem AAs:tQ i8 wZ 177 tf:=fun _=>by kernel_rfl
def i9:tL:=(177,tf)::i8
theorem fL:tO i9:=UE fK AAs
def tC:Sg:=⟨[(zt,T3)],[zI,zI],ZQ⟩
theorem AAa:tQ i9 [] 139 tC:=fun _=>by kernel_rfl
def jA:tL:=(139,tC)::i9
theorem fM:tO jA:=UE fL AAa
def yy:Sg:=⟨[(zt,T3),zI],[zI],W5⟩
theorem e93:tQ jA [] 93 yy:=fun _=>by kernel_rfl
def ko:tL:=(93,yy)::jA
theorem fN:tO ko:=UE fM e93
def zu:tA:=[(60,8,26,.loop { keep:=[0,1,15,23,11,19,27,5,17,25,13,21,29,16,24,12,20,28,18,26,14,22],kb:=[0],pl:=[.slot 3 zf zJ,.slot 2 zf zJ,.slot 4 zf zJ,.slot 30 zf zJ,.map 18 zJ zf .bool],ex:=[(.exit 1,[])],pay:=.unit }),(60,14,44,.loop { keep:=[0,1,7,15,31,23,39,11,19,35,27,5,17,33,25,41,13,21,37,29,2,16,32,24,40,12,20,36,28,6,18,34,26,42,14,22,38,30],kb:=[0,30],pl:=[.slot 3 zf zJ,.slot 43 zf zJ,.slot 4 zf zJ,.map 18 zJ zf .bool],ex:=[(.exit 1,[]),(.exit 3,[])],pay:=.unit })]
def yW:Sg:=⟨[(zt,T4)],[zI,zI,zI],Wb⟩
theorem e60:tQ ko zu 60 yW:=fun _=>by kernel_rfl
def mS:tL:=(60,yW)::ko
theorem mT:tO mS:=UE fN e60
def wF:tA:=[(110,2,6,.loop { keep:=[0,1,7,9,8],kb:=[0],pl:=[.slot 2 zf zJ,.slot 10 zf zJ],ex:=[(.exit 0,[])],pay:=.unit }),(110,5,15,.loop { keep:=[0,1,7,15,11,9,13,4,8,16,12,10,14],kb:=[0,9],pl:=[.slot 17 zf zJ,.slot 2 zf zJ],ex:=[(.exit 2,[])],pay:=.unit })]
def sW:Sg:=⟨[(zt,T4)],[zI],YG⟩
theorem AAK:tQ mS wF 110 sW:=fun _=>by kernel_rfl
def mU:tL:=(110,sW)::mS
theorem mV:tO mU:=UE mT AAK
def sX:Sg:=⟨[(zt,T4),zI],[(zf,.bool)],W4⟩
theorem AAL:tQ mU [] 113 sX:=fun _=>by kernel_rfl
def mW:tL:=(113,sX)::mU
theorem mY:tO mW:=UE mV AAL
def wi:tA:=[(212,6,13,.loop { keep:=[0,15,11,9,17,13,8,16,12,10,14],kb:=[],pl:=[.slot 3 zf zJ,.slot 2 zf zJ,.slot 18 zf zJ],ex:=[(.ret,[]),(.exit 1,[])],pay:=.unit })]
def t6:Sg:=⟨[(zf,(.sl zf (.sl zt T2)))],[zI,zI],XX⟩
theorem AA4:tQ mW wi 212 t6:=fun _=>by kernel_rfl
def mZ:tL:=(212,t6)::mW
theorem ma:tO mZ:=UE mY AA4
end Go.Proofs.YtoefnfbpoabinaaGreatDoor.Pt
