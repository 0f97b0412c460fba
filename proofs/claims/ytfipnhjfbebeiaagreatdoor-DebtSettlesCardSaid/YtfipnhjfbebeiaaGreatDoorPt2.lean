/- The evaluator comes to each of the plain functions. No condition. -/
import Derived.Test.YtfipnhjfbebeiaaGreatDoorPt1
set_option linter.all false
namespace Go.Proofs.YtfipnhjfbebeiaaGreatDoor.Pt
open Go Sv Pl
set_option maxRecDepth 1000000
def te:tA:=[(116,3,3,.loop { keep:=[0,1,4],kb:=[],pl:=[.slot 5 false zJ,.slot 6 false zJ],ex:=[(.exit 0,[])],pay:=.unit })]
def qf:Sg:=⟨[(false,(.sl false (.sl true T2))),(false,(.sl false zJ))],[zI],V8⟩
theorem xD:tE lJ te 116 qf:=fun _=>by kernel_rfl
def lL:tL:=(116,qf)::lJ
theorem lM:tO lL:=SY lK xD
def td:tA:=[(115,7,21,.loop { keep:=[0,1,15,23,11,27,5,17,25,13,21,4,16,24,12,18,26,14,22],kb:=[0],pl:=[.slot 3 false zJ,.slot 2 false zJ,.slot 6 false zJ],ex:=[(.ret,[]),(.exit 0,[])],pay:=.unit }),(115,15,38,.loop { keep:=[0,1,7,15,63,23,11,67,27,59,5,17,65,25,57,13,21,69,61,4,16,64,24,56,12,68,60,6,18,66,26,58,14,22,70,62],kb:=[0],pl:=[.slot 3 false zJ,.slot 2 false zJ,.slot 8 false zJ],ex:=[(.ret,[]),(.exit 2,[])],pay:=.unit })]
def qd:Sg:=⟨[(true,T9)],[zI,zI],V7⟩
theorem xC:tE lL td 115 qd:=fun _=>by kernel_rfl
def lN:tL:=(115,qd)::lL
theorem lO:tO lN:=SY lM xC
def wj:tA:=[(74,3,4,.loop { keep:=[0,1,2],kb:=[0],pl:=[.slot 3 false zJ,.slot 4 false zJ],ex:=[(.exit 0,[])],pay:=.unit })]
def ve:Sg:=⟨[(true,dy)],[zI],WQ⟩
theorem e74:tE lN wj 74 ve:=fun _=>by kernel_rfl
def lQ:tL:=(74,ve)::lN
theorem lR:tO lQ:=SY lO e74
def wm:tA:=[(76,7,18,.loop { keep:=[0,15,11,19,5,17,13,16,12,20,6,14],kb:=[],pl:=[.srow 3 false zJ false,.srow 7 true T2 false,.srow 2 true T2 false,.slot 4 false zJ,.srow 8 false zJ false,.srow 9 false zJ true],ex:=[(.ret,[])],pay:=.unit,plx:=[.srow 3 false zJ false,.srow 2 true T2 false,.slot 4 false zJ] })]
def vi:Sg:=⟨[(false,(.sl false (.sl true T2)))],[(false,(.sl true T2)),(false,(.sl false zJ)),zI],Wu⟩
theorem e76:tE lQ wm 76 vi:=fun _=>by kernel_rfl
def lS:tL:=(76,vi)::lQ
theorem lT:tO lS:=SY lR e76
def rS:Sg:=⟨[(true,pA)],[zI],XW⟩
theorem yD:tE lS [] 171 rS:=fun _=>by kernel_rfl
def lU:tL:=(171,rS)::lS
theorem lV:tO lU:=SY lT yD
def q9:Sg:=⟨[(true,pA),(true,T2)],[(false,.bool),(true,pA),zI],Xt⟩
theorem xX:tE lU [] 143 q9:=fun _=>by kernel_rfl
def lW:tL:=(143,q9)::lU
theorem lX:tO lW:=SY lV xX
def tj:tA:=[(119,6,12,.loop { keep:=[0,1,7,15,17,13,16,14],kb:=[],pl:=[.slot 5 false zJ,.slot 9 false zJ,.srow 4 true T2 false,.srow 8 true T2 false,.slot 6 false zJ,.box 8 [.lf .bool,.lf .str,.lf .bool]],ex:=[(.ret,[]),(.exit 0,[])],pay:=.unit })]
def qi:Sg:=⟨[(false,(.sl true T2)),(false,.bool)],[(false,(.sl true T2)),zI,zI],XC⟩
theorem xG:tE lW tj 119 qi:=fun _=>by kernel_rfl
def lY:tL:=(119,qi)::lW
theorem lZ:tO lY:=SY lX xG
def vj:Sg:=⟨[(false,(.sl true T2)),(false,.bool)],[(false,(.sl true T2)),(true,pA)],Vr⟩
theorem e77:tE lY [] 77 vj:=fun _=>by kernel_rfl
def ld:tL:=(77,vj)::lY
theorem lg:tO ld:=SY lZ e77
def wq:tA:=[(79,4,7,.loop { keep:=[0,1,7,9,8,6,10],kb:=[],pl:=[.slot 5 false zJ,.slot 4 false .bool],ex:=[(.ret,[]),(.exit 0,[])],pay:=.unit })]
def vn:Sg:=⟨[(false,(.sl true T2)),(false,(.sl true T2))],[(false,.bool)],Uz⟩
theorem e79:tE ld wq 79 vn:=fun _=>by kernel_rfl
def lh:tL:=(79,vn)::ld
theorem lj:tO lh:=SY lg e79
def vZ:Sg:=⟨[(true,dy)],[zI],XY⟩
theorem e72:tE lh [] 72 vZ:=fun _=>by kernel_rfl
def lm:tL:=(72,vZ)::lh
theorem lq:tO lm:=SY lj e72
def wi:tA:=[(73,6,14,.loop { keep:=[0,1,3,11,5,9,13,2,4,8,12,10,14],kb:=[0],pl:=[.slot 7 false zJ,.slot 6 false zJ],ex:=[(.exit 0,[])],pay:=.unit })]
def vd:Sg:=⟨[(true,T9)],[zI,zI],Xr⟩
theorem e73:tE lm wi 73 vd:=fun _=>by kernel_rfl
def lr:tL:=(73,vd)::lm
theorem lu:tO lr:=SY lq e73
def u9:Sg:=⟨[(true,dy)],[zI,zI],UR⟩
theorem e37:tE lr [] 37 u9:=fun _=>by kernel_rfl
def lw:tL:=(37,u9)::lr
theorem ly:tO lw:=SY lu e37
def vg:Sg:=⟨[(true,T9)],[(true,T2),zI,(true,T9),zI],WP⟩
theorem e75:tE lw [] 75 vg:=fun _=>by kernel_rfl
def lz:tL:=(75,vg)::lw
theorem l7:tO lz:=SY ly e75
def wT:tA:=[(38,11,32,.loop { keep:=[0,1,7,15,31,23,39,19,35,27,5,9,17,33,25,21,37,2,4,8,16,32,24,20,36,6,10,18,34,26,22,30],kb:=[0,1],pl:=[.slot 11 false zJ,.box 29 [.lf (.sl false (.sl true T2)),.lf (.sl false zJ),.lf (.sl true T5),.lf (.sl false zJ),.lf zJ,.lf .bool,.lf .str,.lf .bool,.lf (.sl true T2),.lf zJ]],ex:=[(.exit 0,[])],pay:=.unit })]
def vA:Sg:=⟨[(true,dy),zI],[(true,dy),zI,zI],UJ⟩
theorem e38:tE lz wT 38 vA:=fun _=>by kernel_rfl
def l8:tL:=(38,vA)::lz
theorem l9:tO l8:=SY l7 e38
end Go.Proofs.YtfipnhjfbebeiaaGreatDoor.Pt
