/- The evaluator comes to each of the plain functions. No condition. -/
import Derived.Test.YtbahicnpiefmlaaGreatDoorPt7
set_option linter.all false
namespace Go.Proofs.YtbahicnpiefmlaaGreatDoor.Pt
open Go Sv Pl
set_option maxRecDepth 1000000
def rm:tA:=[(162,3,10,.loop { keep:=[0,1,3,19,5,9,21,2,4,8,20,10,22],kb:=[0,1,2],pl:=[.slot 23 false zJ,.map 4 zJ true Zj],ex:=[(.exit 0,[])],pay:=.unit }),(162,10,22,.loop { keep:=[0,1,3,23,39,19,35,5,33,13,21,37,2,4,8,32,20,36,10,34,22,38],kb:=[0,1,4],pl:=[.slot 9 false zJ,.slot 40 false zJ,.box 2 [.lf zJ,.ow true (.sl true T3) false,.ow true Zj false,.lf zJ],.box 16 [.lf zJ,.lf (.sl true (.sl true T3)),.ow true Zj false,.lf zJ]],ex:=[(.exit 2,[]),(.ret,[])],pay:=.unit })]
def om:Sg:=⟨[(true,Xq),(true,T4),zI,zI],[(true,Xq),zI],UE⟩
theorem vR:tE dO rm 162 om:=fun _=>by kernel_rfl
def dQ:tL:=(162,om)::dO
theorem fy:tO dQ:=SX fx vR
def uQ:Sg:=⟨[(true,Xq),zI],[(true,Xq),zI],Vu⟩
theorem yZ:tE dQ [] 93 uQ:=fun _=>by kernel_rfl
def dR:tL:=(93,uQ)::dQ
theorem f8:tO dR:=SX fy yZ
def tj:Sg:=⟨[(true,Xq),zI],[(true,Xq),(false,.bool),zI],VW⟩
theorem x0:tE dR [] 37 tj:=fun _=>by kernel_rfl
def dS:tL:=(37,tj)::dR
theorem f9:tO dS:=SX f8 x0
def uj:tA:=[(205,3,25,.loop { keep:=[0,1,5,2,4,6],kb:=[0,3,19,9,18,14],pl:=[.box 13 [.lf zJ,.lf (.sl true (.sl true T3)),.lf (.sl true Zj),.lf zJ],.box 22 [.er 360 0 155 .i64],.box 20 [.lf zJ],.box 2 [.lf zJ,.lf (.sl true (.sl true T3)),.lf (.sl true Zj),.lf zJ],.box 1 [.lf zJ]],ex:=[(.ret,[(19,0,none)]),(.ret,[(19,2,some (.exit 0))])],pay:=.unit })]
def t9:Sg:=⟨[(true,Xq),zI],[(true,Xq),zI,zI],Yw⟩
theorem yM:tE dS uj 75 t9:=fun _=>by kernel_rfl
def dT:tL:=(75,t9)::dS
theorem gA:tO dT:=SX f9 yM
def td:Sg:=⟨[(true,Xq),zI],[(true,Xq),zI,zI],Zu⟩
theorem xq:tE dT [] 28 td:=fun _=>by kernel_rfl
def dU:tL:=(28,td)::dT
theorem gB:tO dU:=SX gA xq
def te:Sg:=⟨[(true,Xq)],[(true,Xq),zI,zI],Yp⟩
theorem xu:tE dU [] 31 te:=fun _=>by kernel_rfl
def dV:tL:=(31,te)::dU
theorem gC:tO dV:=SX gB xu
def tY:Sg:=⟨[(true,Xq)],[(false,.bool),zI],WV⟩
theorem xj:tE dV [] 25 tY:=fun _=>by kernel_rfl
def dW:tL:=(25,tY)::dV
theorem gD:tO dW:=SX gC xj
def tK:Sg:=⟨[],[(false,.bool)],Ww⟩
theorem xX:tE dW [] 16 tK:=fun _=>by kernel_rfl
def dX:tL:=(16,tK)::dW
theorem gE:tO dX:=SX gD xX
def sH:tA:=[(226,4,7,.loop { keep:=[0,1,7,9,8,6,10],kb:=[],pl:=[.slot 5 false zJ,.slot 4 false .bool],ex:=[(.ret,[]),(.exit 0,[])],pay:=.unit })]
def pJ:Sg:=⟨[(false,(.sl false zJ)),(false,(.sl false zJ))],[(false,.bool)],XO⟩
theorem vu:tE dX sH 226 pJ:=fun _=>by kernel_rfl
def dY:tL:=(226,pJ)::dX
theorem gF:tO dY:=SX gE vu
def sI:tA:=[(227,4,26,.loop { keep:=[0,1,3,7,15,23,11,19,27,9,17,25,13,21,2,8,16,24,12,20,6,10,18,26,14,22],kb:=[0,1],pl:=[.slot 5 false zJ,.slot 4 false .bool],ex:=[(.ret,[]),(.exit 0,[])],pay:=.unit })]
def pK:Sg:=⟨[(true,T7),(true,T7)],[(false,.bool)],Wd⟩
theorem vw:tE dY sI 227 pK:=fun _=>by kernel_rfl
def dZ:tL:=(227,pK)::dY
theorem gG:tO dZ:=SX gF vw
def sC:tA:=[(222,3,3,.loop { keep:=[0,1,4],kb:=[],pl:=[.slot 5 false zJ,.slot 6 false zJ],ex:=[(.exit 0,[])],pay:=.unit })]
def pF:Sg:=⟨[(false,(.sl false (.sl true T2))),(false,(.sl false zJ))],[zI],Vr⟩
theorem vo:tE dZ sC 222 pF:=fun _=>by kernel_rfl
def da:tL:=(222,pF)::dZ
theorem gH:tO da:=SX gG vo
def sB:tA:=[(221,7,21,.loop { keep:=[0,1,15,23,11,27,5,17,25,13,21,4,16,24,12,18,26,14,22],kb:=[0],pl:=[.slot 3 false zJ,.slot 2 false zJ,.slot 6 false zJ],ex:=[(.ret,[]),(.exit 0,[])],pay:=.unit }),(221,15,38,.loop { keep:=[0,1,7,15,63,23,11,67,27,59,5,17,65,25,57,13,21,69,61,4,16,64,24,56,12,68,60,6,18,66,26,58,14,22,70,62],kb:=[0],pl:=[.slot 3 false zJ,.slot 2 false zJ,.slot 8 false zJ],ex:=[(.ret,[]),(.exit 2,[])],pay:=.unit })]
def pE:Sg:=⟨[(true,T9)],[zI,zI],Vq⟩
theorem vn:tE da sB 221 pE:=fun _=>by kernel_rfl
def db:tL:=(221,pE)::da
theorem gI:tO db:=SX gH vn
def rV:tA:=[(151,3,4,.loop { keep:=[0,1,2],kb:=[0],pl:=[.slot 3 false zJ,.slot 4 false zJ],ex:=[(.exit 0,[])],pay:=.unit })]
def oX:Sg:=⟨[(true,cK)],[zI],V7⟩
theorem vD:tE db rV 151 oX:=fun _=>by kernel_rfl
def de:tL:=(151,oX)::db
theorem gJ:tO de:=SX gI vD
def rZ:tA:=[(153,7,18,.loop { keep:=[0,15,11,19,5,17,13,16,12,20,6,14],kb:=[],pl:=[.srow 3 false zJ false,.srow 7 true T2 false,.srow 2 true T2 false,.slot 4 false zJ,.srow 8 false zJ false,.srow 9 false zJ true],ex:=[(.ret,[])],pay:=.unit,plx:=[.srow 3 false zJ false,.srow 2 true T2 false,.slot 4 false zJ] })]
def oZ:Sg:=⟨[(false,(.sl false (.sl true T2)))],[(false,(.sl true T2)),(false,(.sl false zJ)),zI],WR⟩
theorem vG:tE de rZ 153 oZ:=fun _=>by kernel_rfl
def dg:tL:=(153,oZ)::de
theorem gK:tO dg:=SX gJ vG
end Go.Proofs.YtbahicnpiefmlaaGreatDoor.Pt
