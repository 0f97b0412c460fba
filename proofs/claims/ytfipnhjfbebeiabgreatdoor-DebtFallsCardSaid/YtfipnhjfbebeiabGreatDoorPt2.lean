/- The evaluator comes to each of the plain functions. No condition. -/
import Derived.Test.YtfipnhjfbebeiabGreatDoorPt1
set_option linter.all false
namespace Go.Proofs.YtfipnhjfbebeiabGreatDoor.Pt
open Go Sv Pl
set_option maxRecDepth 1000000
def t4:tA:=[(116,3,3,.loop { keep:=[0,1,4],kb:=[],pl:=[.slot 5 false zJ,.slot 6 false zJ],ex:=[(.exit 0,[])],pay:=.unit })]
def qn:Sg:=⟨[(false,(.sl false (.sl true T2))),(false,(.sl false zJ))],[zI],V8⟩
theorem xM:tE lO t4 116 qn:=fun _=>by kernel_rfl
def lR:tL:=(116,qn)::lO
theorem lS:tO lR:=SY lQ xM
def tz:tA:=[(115,7,21,.loop { keep:=[0,1,15,23,11,27,5,17,25,13,21,4,16,24,12,18,26,14,22],kb:=[0],pl:=[.slot 3 false zJ,.slot 2 false zJ,.slot 6 false zJ],ex:=[(.ret,[]),(.exit 0,[])],pay:=.unit }),(115,15,38,.loop { keep:=[0,1,7,15,63,23,11,67,27,59,5,17,65,25,57,13,21,69,61,4,16,64,24,56,12,68,60,6,18,66,26,58,14,22,70,62],kb:=[0],pl:=[.slot 3 false zJ,.slot 2 false zJ,.slot 8 false zJ],ex:=[(.ret,[]),(.exit 2,[])],pay:=.unit })]
def qm:Sg:=⟨[(true,T9)],[zI,zI],V7⟩
theorem xL:tE lR tz 115 qm:=fun _=>by kernel_rfl
def lT:tL:=(115,qm)::lR
theorem lU:tO lT:=SY lS xL
def ww:tA:=[(69,3,4,.loop { keep:=[0,1,2],kb:=[0],pl:=[.slot 3 false zJ,.slot 4 false zJ],ex:=[(.exit 0,[])],pay:=.unit })]
def vn:Sg:=⟨[(true,eB)],[zI],WO⟩
theorem e69:tE lT ww 69 vn:=fun _=>by kernel_rfl
def lV:tL:=(69,vn)::lT
theorem lW:tO lV:=SY lU e69
def wx:tA:=[(71,7,18,.loop { keep:=[0,15,11,19,5,17,13,16,12,20,6,14],kb:=[],pl:=[.srow 3 false zJ false,.srow 7 true T2 false,.srow 2 true T2 false,.slot 4 false zJ,.srow 8 false zJ false,.srow 9 false zJ true],ex:=[(.ret,[])],pay:=.unit,plx:=[.srow 3 false zJ false,.srow 2 true T2 false,.slot 4 false zJ] })]
def vp:Sg:=⟨[(false,(.sl false (.sl true T2)))],[(false,(.sl true T2)),(false,(.sl false zJ)),zI],Wv⟩
theorem e71:tE lV wx 71 vp:=fun _=>by kernel_rfl
def lX:tL:=(71,vp)::lV
theorem lY:tO lX:=SY lW e71
def rn:Sg:=⟨[(true,pG)],[zI],XW⟩
theorem yL:tE lX [] 181 rn:=fun _=>by kernel_rfl
def lZ:tL:=(181,rn)::lX
theorem ld:tO lZ:=SY lY yL
def rL:Sg:=⟨[(true,pG),(true,T2)],[(false,.bool),(true,pG),zI],Xr⟩
theorem xu:tE lZ [] 159 rL:=fun _=>by kernel_rfl
def lg:tL:=(159,rL)::lZ
theorem lh:tO lg:=SY ld xu
def t7:tA:=[(119,6,12,.loop { keep:=[0,1,7,15,17,13,16,14],kb:=[],pl:=[.slot 5 false zJ,.slot 9 false zJ,.srow 4 true T2 false,.srow 8 true T2 false,.slot 6 false zJ,.box 8 [.lf .bool,.lf .str,.lf .bool]],ex:=[(.ret,[]),(.exit 0,[])],pay:=.unit })]
def qq:Sg:=⟨[(false,(.sl true T2)),(false,.bool)],[(false,(.sl true T2)),zI,zI],XD⟩
theorem xP:tE lg t7 119 qq:=fun _=>by kernel_rfl
def lj:tL:=(119,qq)::lg
theorem lm:tO lj:=SY lh xP
def vq:Sg:=⟨[(false,(.sl true T2)),(false,.bool)],[(false,(.sl true T2)),(true,pG)],Vs⟩
theorem e72:tE lj [] 72 vq:=fun _=>by kernel_rfl
def lq:tL:=(72,vq)::lj
theorem lr:tO lq:=SY lm e72
def wz:tA:=[(74,4,7,.loop { keep:=[0,1,7,9,8,6,10],kb:=[],pl:=[.slot 5 false zJ,.slot 4 false .bool],ex:=[(.ret,[]),(.exit 0,[])],pay:=.unit })]
def vw:Sg:=⟨[(false,(.sl true T2)),(false,(.sl true T2))],[(false,.bool)],U3⟩
theorem e74:tE lq wz 74 vw:=fun _=>by kernel_rfl
def lu:tL:=(74,vw)::lq
theorem lw:tO lu:=SY lr e74
def vj:Sg:=⟨[(true,eB)],[zI],XY⟩
theorem e67:tE lu [] 67 vj:=fun _=>by kernel_rfl
def ly:tL:=(67,vj)::lu
theorem lz:tO ly:=SY lw e67
def wv:tA:=[(68,6,14,.loop { keep:=[0,1,3,11,5,9,13,2,4,8,12,10,14],kb:=[0],pl:=[.slot 7 false zJ,.slot 6 false zJ],ex:=[(.exit 0,[])],pay:=.unit })]
def vk:Sg:=⟨[(true,T9)],[zI,zI],Xp⟩
theorem e68:tE ly wv 68 vk:=fun _=>by kernel_rfl
def l7:tL:=(68,vk)::ly
theorem l8:tO l7:=SY lz e68
def u9:Sg:=⟨[(true,eB)],[zI,zI],US⟩
theorem zs:tE l7 [] 26 u9:=fun _=>by kernel_rfl
def l9:tL:=(26,u9)::l7
theorem mB:tO l9:=SY l8 zs
def vo:Sg:=⟨[(true,T9)],[(true,T2),zI,(true,T9),zI],WN⟩
theorem e70:tE l9 [] 70 vo:=fun _=>by kernel_rfl
def mC:tL:=(70,vo)::l9
theorem mD:tO mC:=SY mB e70
def wb:tA:=[(27,11,32,.loop { keep:=[0,1,7,15,31,23,39,19,35,27,5,9,17,33,25,21,37,2,4,8,16,32,24,20,36,6,10,18,34,26,22,30],kb:=[0,1],pl:=[.slot 11 false zJ,.box 29 [.lf (.sl false (.sl true T2)),.lf (.sl false zJ),.lf (.sl true T5),.lf (.sl false zJ),.lf zJ,.lf .bool,.lf .str,.lf .bool,.lf (.sl true T2),.lf zJ]],ex:=[(.exit 0,[])],pay:=.unit })]
def vA:Sg:=⟨[(true,eB),zI],[(true,eB),zI,zI],UK⟩
theorem y8:tE mC wb 27 vA:=fun _=>by kernel_rfl
def mF:tL:=(27,vA)::mC
theorem mG:tO mF:=SY mD y8
end Go.Proofs.YtfipnhjfbebeiabGreatDoor.Pt
