/- The evaluator comes to each of the plain functions. No condition. -/
import Derived.Test.YtfipnhjfbebeiaaGreatDoorPt1
set_option linter.all false
namespace Go.Proofs.YtfipnhjfbebeiaaGreatDoor.Pt
open Go Sv Pl
set_option maxRecDepth 1000000
def uT:tA:=[(117,4,12,.loop { keep:=[0,1,15,11,5,9,13,4,12,10,14],kb:=[0,3,8,6],pl:=[.slot 7 false zJ,.srow 6 true T5 false],ex:=[(.exit 0,[])],pay:=.unit })]
def rN:Sg:=⟨[(false,(.sl false (.sl true T2))),(false,(.sl false zJ))],[(true,T9)],Vg⟩
theorem yJ:tE l8 uT 117 rN:=fun _=>by kernel_rfl
def mB:tL:=(117,rN)::l8
theorem mC:tO mB:=SY l9 yJ
def rJ:Sg:=⟨[(false,(.sl false (.sl true T2)))],[(true,T9),zI,zI],YN⟩
theorem yF:tE mB [] 113 rJ:=fun _=>by kernel_rfl
def mD:tL:=(113,rJ)::mB
theorem mF:tO mD:=SY mC yF
def rK:Sg:=⟨[(false,.bool)],[(true,pn)],Vh⟩
theorem yG:tE mD [] 114 rK:=fun _=>by kernel_rfl
def mG:tL:=(114,rK)::mD
theorem mH:tO mG:=SY mF yG
def wT:Sg:=⟨[(false,(.sl false (.sl true T2))),(false,.bool)],[(true,dl),zI,zI],Xb⟩
theorem e71:tE mG [] 71 wT:=fun _=>by kernel_rfl
def mJ:tL:=(71,wT)::mG
theorem mL:tO mJ:=SY mH e71
def vt:Sg:=⟨[(true,T4),zI,(false,.bool)],[(true,ZL)],UD⟩
theorem e36:tE mJ [] 36 vt:=fun _=>by kernel_rfl
def mM:tL:=(36,vt)::mJ
theorem mN:tO mM:=SY mL e36
def xA:tA:=[(21,7,25,.loop { keep:=[0,1,3,7,15,23,11,5,17,25,13,21,2,4,8,16,24,12,20,6,10,26,14,22],kb:=[0,1],pl:=[.slot 9 false zJ,.box 19 [.lf zJ,.lf (.sl true (.sl true T3)),.ow true ZL false,.lf zJ]],ex:=[(.exit 0,[])],pay:=.unit })]
def vV:Sg:=⟨[(true,T4)],[(true,XL),zI],ac⟩
theorem e21:tE mM xA 21 vV:=fun _=>by kernel_rfl
def mO:tL:=(21,vV)::mM
theorem mQ:tO mO:=SY mN e21
def tC:Sg:=⟨[(false,.str)],[zI],W1⟩
theorem ze:tE mO [] 190 tC:=fun _=>by kernel_rfl
def mS:tL:=(190,tC)::mO
theorem mT:tO mS:=SY mQ ze
def sX:Sg:=⟨[(true,T2)],[zI],VG⟩
theorem zH:tE mS [] 172 sX:=fun _=>by kernel_rfl
def mU:tL:=(172,sX)::mS
theorem mV:tO mU:=SY mT zH
def ug:tA:=[(146,4,8,.loop { keep:=[0,7,11,9,8,10],kb:=[],pl:=[.slot 3 false zJ,.slot 2 false zJ,.slot 12 false zJ],ex:=[(.ret,[]),(.exit 0,[])],pay:=.unit })]
def sE:Sg:=⟨[(false,(.sl true T2))],[zI,zI],Uc⟩
theorem yg:tE mU ug 146 sE:=fun _=>by kernel_rfl
def mW:tL:=(146,sE)::mU
theorem mX:tO mW:=SY mV yg
def rT:Sg:=⟨[(true,T3)],[zI,zI],X2⟩
theorem yO:tE mW [] 125 rT:=fun _=>by kernel_rfl
def mY:tL:=(125,rT)::mW
theorem mZ:tO mY:=SY mX yO
def wh:Sg:=⟨[(true,T3),zI],[zI],Vf⟩
theorem e83:tE mY [] 83 wh:=fun _=>by kernel_rfl
def ma:tL:=(83,wh)::mY
theorem mb:tO ma:=SY mZ e83
def xN:tA:=[(47,8,26,.loop { keep:=[0,1,15,23,11,19,27,5,17,25,13,21,29,16,24,12,20,28,18,26,14,22],kb:=[0],pl:=[.slot 3 false zJ,.slot 2 false zJ,.slot 4 false zJ,.slot 30 false zJ,.map 18 zJ false .bool],ex:=[(.exit 1,[])],pay:=.unit }),(47,14,44,.loop { keep:=[0,1,7,15,31,23,39,11,19,35,27,5,17,33,25,41,13,21,37,29,2,16,32,24,40,12,20,36,28,6,18,34,26,42,14,22,38,30],kb:=[0,30],pl:=[.slot 3 false zJ,.slot 43 false zJ,.slot 4 false zJ,.map 18 zJ false .bool],ex:=[(.exit 1,[]),(.exit 3,[])],pay:=.unit })]
def wC:Sg:=⟨[(true,T4)],[zI,zI,zI],VQ⟩
theorem e47:tE ma xN 47 wC:=fun _=>by kernel_rfl
def mc:tL:=(47,wC)::ma
theorem md:tO mc:=SY mb e47
def xO:tA:=[(48,2,6,.loop { keep:=[0,1,7,9,8],kb:=[0],pl:=[.slot 2 false zJ,.slot 10 false zJ],ex:=[(.exit 0,[])],pay:=.unit }),(48,5,15,.loop { keep:=[0,1,7,15,11,9,13,4,8,16,12,10,14],kb:=[0,9],pl:=[.slot 17 false zJ,.slot 2 false zJ],ex:=[(.exit 2,[])],pay:=.unit })]
def wD:Sg:=⟨[(true,T4)],[zI],Wl⟩
theorem e48:tE mc xO 48 wD:=fun _=>by kernel_rfl
def me:tL:=(48,wD)::mc
theorem mf:tO me:=SY md e48
def wE:Sg:=⟨[(true,T4),zI],[(false,.bool)],Vd⟩
theorem e51:tE me [] 51 wE:=fun _=>by kernel_rfl
def mg:tL:=(51,wE)::me
theorem mh:tO mg:=SY mf e51
end Go.Proofs.YtfipnhjfbebeiaaGreatDoor.Pt
