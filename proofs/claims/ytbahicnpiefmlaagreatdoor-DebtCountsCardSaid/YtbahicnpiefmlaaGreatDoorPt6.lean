/- The evaluator comes to each of the plain functions. No condition. -/
import Derived.Test.YtbahicnpiefmlaaGreatDoorPt5
set_option linter.all false
namespace Go.Proofs.YtbahicnpiefmlaaGreatDoor.Pt
open Go Sv Pl
set_option maxRecDepth 1000000
def o8:Sg:=⟨[(false,(.sl true T2)),(false,(.sl true T2))],[(false,.bool)],Uh⟩
theorem vd:tE l9 [] 202 o8:=fun _=>by kernel_rfl
def mC:tL:=(202,o8)::l9
theorem mD:tO mC:=SX mB vd
def rS:tA:=[(201,4,81,.loop { keep:=[0,1,15,11,13,2,16,12,10,14],kb:=[0,1,7,8],pl:=[.slot 17 false zJ,.slot 6 false .bool],ex:=[(.ret,[]),(.exit 0,[])],pay:=.unit })]
def oR:Sg:=⟨[(true,cK),(true,cK)],[(false,.bool)],Vd⟩
theorem u6:tE mC rS 136 oR:=fun _=>by kernel_rfl
def mF:tL:=(136,oR)::mC
theorem mG:tO mF:=SX mD u6
def ui:tA:=[(196,1,52,.loop { keep:=[0,1,7,5,6],kb:=[0,47,35,46],pl:=[.slot 8 false zJ,.box 43 [.ow false zJ false]],ex:=[(.exit 0,[(47,0,none)])],pay:=.unit }),(74,10,59,.loop { keep:=[0,1,15,31,47,23,39,19,35,27,43,17,33,25,41,21,37,29,45,4,16,32,40,20,36,28,44,18,34,26,42,14,22,38,30,46],kb:=[0,47,35,43,52],pl:=[.slot 3 false zJ,.slot 2 false zJ,.slot 48 false zJ],ex:=[(.ret,[(47,3,none)]),(.exit 1,[(47,3,none)])],pay:=.unit })]
def t8:Sg:=⟨[(true,Xq)],[zI,zI],Us⟩
theorem yL:tE mF ui 74 t8:=fun _=>by kernel_rfl
def mH:tL:=(74,t8)::mF
theorem mJ:tO mH:=SX mG yL
def uh:tA:=[(196,1,35,.loop { keep:=[0,1,7,5,6],kb:=[0,29,18,30],pl:=[.slot 8 false zJ,.box 26 [.ow false zJ false]],ex:=[(.exit 0,[(30,0,none)])],pay:=.unit })]
def t5:Sg:=⟨[(true,Xq)],[(false,(.sl false zJ)),zI],VX⟩
theorem yI:tE mH uh 71 t5:=fun _=>by kernel_rfl
def mL:tL:=(71,t5)::mH
theorem mM:tO mL:=SX mJ yI
def rM:tA:=[(244,2,31,.loop { keep:=[0,1,7,6],kb:=[0,1],pl:=[.slot 4 false zJ,.slot 8 false zJ],ex:=[(.ret,[]),(.exit 0,[])],pay:=.unit })]
def oI:Sg:=⟨[(true,Xq),zI],[zI,zI],WP⟩
theorem uv:tE mL rM 126 oI:=fun _=>by kernel_rfl
def mN:tL:=(126,oI)::mL
theorem mO:tO mN:=SX mM uv
def tz:Sg:=⟨[(true,Xq),zI],[zI,zI],Xg⟩
theorem yG:tE mN [] 69 tz:=fun _=>by kernel_rfl
def mQ:tL:=(69,tz)::mN
theorem mS:tO mQ:=SX mO yG
def tM:Sg:=⟨[(true,Xq),zI],[zI,zI],WM⟩
theorem xY:tE mQ [] 17 tM:=fun _=>by kernel_rfl
def mT:tL:=(17,tM)::mQ
theorem mU:tO mT:=SX mS xY
def uX:tA:=[(19,6,16,.loop { keep:=[0,1,15,11,19,5,17,13,4,16,12,20,14],kb:=[0],pl:=[.slot 3 false zJ,.slot 21 false zJ,.slot 2 false zJ,.slot 6 false zJ],ex:=[(.ret,[]),(.exit 0,[])],pay:=.unit })]
def tQ:Sg:=⟨[(true,Xq)],[zI,zI],Xb⟩
theorem xd:tE mT uX 19 tQ:=fun _=>by kernel_rfl
def mV:tL:=(19,tQ)::mT
theorem mW:tO mV:=SX mU xd
def rI:tA:=[(243,1,27,.loop { keep:=[0,1,7,8,6],kb:=[0,17,21,22],pl:=[.slot 9 false zJ,.box 1 [.lf zJ],.box 2 [.lf zJ]],ex:=[(.exit 0,[(22,0,none)])],pay:=.unit }),(243,4,37,.loop { keep:=[0,1,7,15,11,9,13,4,8,16,12,6,10,14],kb:=[0,17,21,22,30],pl:=[.slot 5 false zJ,.box 1 [.lf zJ],.box 2 [.lf zJ]],ex:=[(.exit 2,[(22,0,none)])],pay:=.unit })]
def oE:Sg:=⟨[(true,T4)],[zI,zI,zI],WY⟩
theorem ur:tE mV rI 119 oE:=fun _=>by kernel_rfl
def mX:tL:=(119,oE)::mV
theorem mY:tO mX:=SX mW ur
def t7:Sg:=⟨[(true,Xq)],[zI,zI,zI],Vz⟩
theorem yK:tE mX [] 73 t7:=fun _=>by kernel_rfl
def mZ:tL:=(73,t7)::mX
theorem ma:tO mZ:=SX mY yK
def tU:Sg:=⟨[(true,Xq)],[zI,zI],Vy⟩
theorem xf:tE mZ [] 21 tU:=fun _=>by kernel_rfl
def mb:tL:=(21,tU)::mZ
theorem mc:tO mb:=SX ma xf
def tW:Sg:=⟨[(true,Xq)],[zI,zI],WU⟩
theorem xh:tE mb [] 23 tW:=fun _=>by kernel_rfl
def md:tL:=(23,tW)::mb
theorem me:tO md:=SX mc xh
def uL:Sg:=⟨[(true,Xq),zI],[(true,rH),zI],Vh⟩
theorem yV:tE md [] 89 uL:=fun _=>by kernel_rfl
def mf:tL:=(89,uL)::md
theorem mg:tO mf:=SX me yV
def uN:Sg:=⟨[(true,rH)],[(false,.bool)],UQ⟩
theorem yX:tE mf [] 91 uN:=fun _=>by kernel_rfl
def mh:tL:=(91,uN)::mf
theorem mi:tO mh:=SX mg yX
end Go.Proofs.YtbahicnpiefmlaaGreatDoor.Pt
