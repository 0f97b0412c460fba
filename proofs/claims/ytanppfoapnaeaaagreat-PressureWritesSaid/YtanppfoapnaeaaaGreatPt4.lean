/- The evaluator comes to each of the plain functions. No condition. -/
import Derived.Test.YtanppfoapnaeaaaGreatPt3
set_option linter.all false
namespace Go.Proofs.YtanppfoapnaeaaaGreat.Pt
open Go Sv Pl
set_option maxRecDepth 1000000
def pN:tA:=[(100,6,17,.loop { keep:=[0,1,3,15,11,19,5,9,17,13,2,4,12,10,18,14],kb:=[0],pl:=[.slot 20 false zJ,.slot 6 false zJ],ex:=[(.exit 0,[])],pay:=.unit })]
def nI:Sg:=⟨[(true,T9)],[zI,zI],XP⟩
theorem t5:tQ kA pN 100 nI:=fun _=>by kernel_rfl
def kC:tL:=(100,nI)::kA
theorem kD:tO kC:=SS kB t5
def rZ:Sg:=⟨[(true,bT)],[zI,zI],Uj⟩
theorem wu:tQ kC [] 66 rZ:=fun _=>by kernel_rfl
def kF:tL:=(66,rZ)::kC
theorem kG:tO kF:=SS kD wu
def nq:Sg:=⟨[(true,T9)],[(true,T2),zI,(true,T9),zI],Ud⟩
theorem uW:tQ kF [] 131 nq:=fun _=>by kernel_rfl
def kH:tL:=(131,nq)::kF
theorem kI:tO kH:=SS kG uW
def nr:Sg:=⟨[(true,mV),(true,T2)],[(false,.bool),(true,mV),zI],Ui⟩
theorem uX:tQ kH [] 132 nr:=fun _=>by kernel_rfl
def kJ:tL:=(132,nr)::kH
theorem kK:tO kJ:=SS kI uX
def tU:tA:=[(101,2,81,.loop { keep:=[0,1,6],kb:=[0,1,39,67,68],pl:=[.slot 7 false zJ,.slot 4 false zJ,.box 28 [.lf (.sl false (.sl true T2)),.lf (.sl false zJ),.lf (.sl true T5),.lf (.sl false zJ),.lf zJ,.lf .bool,.lf .str,.lf .bool,.ow true T2 false,.lf zJ]],ex:=[(.ret,[]),(.exit 0,[])],pay:=.unit }),(101,2,98,.loop { keep:=[0,1,6],kb:=[0,1,39,67,68,86],pl:=[.slot 7 false zJ,.slot 4 false zJ,.box 28 [.lf (.sl false (.sl true T2)),.lf (.sl false zJ),.lf (.sl true T5),.lf (.sl false zJ),.lf zJ,.lf .bool,.lf .str,.lf .bool,.ow true T2 false,.lf zJ]],ex:=[(.ret,[]),(.exit 0,[])],pay:=.unit }),(101,2,133,.loop { keep:=[0,1,6],kb:=[0,1,39,67,68,86],pl:=[.slot 7 false zJ,.slot 4 false zJ,.box 28 [.lf (.sl false (.sl true T2)),.lf (.sl false zJ),.lf (.sl true T5),.lf (.sl false zJ),.lf zJ,.lf .bool,.lf .str,.lf .bool,.ow true T2 false,.lf zJ]],ex:=[(.ret,[]),(.exit 0,[])],pay:=.unit }),(101,2,120,.loop { keep:=[0,1,6],kb:=[0,1,39,67,68,86],pl:=[.slot 7 false zJ,.slot 4 false zJ,.box 28 [.lf (.sl false (.sl true T2)),.lf (.sl false zJ),.lf (.sl true T5),.lf (.sl false zJ),.lf zJ,.lf .bool,.lf .str,.lf .bool,.ow true T2 false,.lf zJ]],ex:=[(.ret,[]),(.exit 0,[])],pay:=.unit })]
def ra:Sg:=⟨[(true,bT),zI],[(true,bT),zI,zI],Uw⟩
theorem wv:tQ kJ tU 67 ra:=fun _=>by kernel_rfl
def kL:tL:=(67,ra)::kJ
theorem kM:tO kL:=SS kK wv
def pk:tA:=[(133,4,9,.loop { keep:=[0,1,7,11,9,8,12,6,10],kb:=[],pl:=[.slot 13 false zJ,.slot 4 false .bool],ex:=[(.ret,[]),(.exit 0,[])],pay:=.unit })]
def nu:Sg:=⟨[(false,(.sl true T2)),(false,(.sl true T2))],[(false,.bool)],UX⟩
theorem uY:tQ kL pk 133 nu:=fun _=>by kernel_rfl
def kO:tL:=(133,nu)::kL
theorem kP:tO kO:=SS kM uY
def nJ:Sg:=⟨[(false,(.sl true T2)),(false,(.sl true T2))],[(false,.bool)],Ub⟩
theorem t6:tQ kO [] 104 nJ:=fun _=>by kernel_rfl
def kQ:tL:=(104,nJ)::kO
theorem kS:tO kQ:=SS kP t6
def tV:tA:=[(103,4,81,.loop { keep:=[0,1,15,11,13,2,16,12,10,14],kb:=[0,1,7,8],pl:=[.slot 17 false zJ,.slot 6 false .bool],ex:=[(.ret,[]),(.exit 0,[])],pay:=.unit })]
def rf:Sg:=⟨[(true,bT),(true,bT)],[(false,.bool)],VT⟩
theorem ww:tQ kQ tV 68 rf:=fun _=>by kernel_rfl
def kT:tL:=(68,rf)::kQ
theorem kU:tO kT:=SS kS ww
def sy:tA:=[(97,1,52,.loop { keep:=[0,1,7,5,6],kb:=[0,47,35,46],pl:=[.slot 8 false zJ,.box 43 [.ow false zJ false]],ex:=[(.exit 0,[(47,0,none)])],pay:=.unit }),(39,10,59,.loop { keep:=[0,1,15,31,47,23,39,19,35,27,43,17,33,25,41,21,37,29,45,4,16,32,40,20,36,28,44,18,34,26,42,14,22,38,30,46],kb:=[0,47,35,43,52],pl:=[.slot 3 false zJ,.slot 2 false zJ,.slot 48 false zJ],ex:=[(.ret,[(47,3,none)]),(.exit 1,[(47,3,none)])],pay:=.unit })]
def qy:Sg:=⟨[(true,eC)],[zI,zI],Ua⟩
theorem wO:tQ kT sy 39 qy:=fun _=>by kernel_rfl
def kV:tL:=(39,qy)::kT
theorem kW:tO kV:=SS kU wO
def qd:Sg:=⟨[(true,ZM)],[zI,zI],YG⟩
theorem v6:tQ kV [] 14 qd:=fun _=>by kernel_rfl
def kX:tL:=(14,qd)::kV
theorem kY:tO kX:=SS kW v6
def qf:Sg:=⟨[(false,.str),zI],[(true,T2)],Vx⟩
theorem v7:tQ kX [] 15 qf:=fun _=>by kernel_rfl
def kZ:tL:=(15,qf)::kX
theorem ka:tO kZ:=SS kY v7
def tB:tA:=[(43,7,17,.loop { keep:=[0,1,15,11,19,5,13,21,2,16,12,20,6,10,18,14,22],kb:=[0],pl:=[.slot 23 false zJ,.slot 4 false zJ],ex:=[(.ret,[]),(.exit 0,[])],pay:=.unit })]
def rC:Sg:=⟨[(true,T3),(false,(.sl true T2))],[zI],Vv⟩
theorem wS:tQ kZ tB 43 rC:=fun _=>by kernel_rfl
def kc:tL:=(43,rC)::kZ
theorem ke:tO kc:=SS ka wS
def tY:tA:=[(111,2,13,.loop { keep:=[0,1,4,8],kb:=[0,1],pl:=[.slot 5 false zJ,.slot 6 false zJ],ex:=[(.exit 0,[])],pay:=.unit })]
def rq:Sg:=⟨[(false,(.sl true T2)),(false,.str)],[zI,(false,.bool)],Vg⟩
theorem w7:tQ kc tY 73 rq:=fun _=>by kernel_rfl
def kg:tL:=(73,rq)::kc
theorem kh:tO kg:=SS ke w7
def tC:tA:=[(44,4,16,.loop { keep:=[0,1,15,11,19,13,2,16,12,18],kb:=[0],pl:=[.slot 5 false zJ,.swin 4 true T2,.slot 20 false zJ,.slot 6 false .bool],ex:=[(.exit 0,[])],pay:=.unit })]
def rD:Sg:=⟨[(true,T3),(false,(.sl true T2))],[(false,(.sl true T2)),zI,(false,.bool)],VK⟩
theorem wT:tQ kg tC 44 rD:=fun _=>by kernel_rfl
def ki:tL:=(44,rD)::kg
theorem kj:tO ki:=SS kh wT
end Go.Proofs.YtanppfoapnaeaaaGreat.Pt
