/- The evaluator comes to each of the plain functions. No condition. -/
import Derived.Test.YtfipnhjfbebeiaaGreatDoorPt5
set_option linter.all false
namespace Go.Proofs.YtfipnhjfbebeiaaGreatDoor.Pt
open Go Sv Pl
set_option maxRecDepth 1000000
def wo:Sg:=⟨[(false,(.sl true T2)),(false,(.sl true T2))],[(false,.bool)],Uq⟩
theorem e92:tE oh [] 92 wo:=fun _=>by kernel_rfl
def om:tL:=(92,wo)::oh
theorem oq:tO om:=SY oi e92
def xQ:tA:=[(91,4,81,.loop { keep:=[0,1,15,11,13,2,16,12,10,14],kb:=[0,1,7,8],pl:=[.slot 17 false zJ,.slot 6 false .bool],ex:=[(.ret,[]),(.exit 0,[])],pay:=.unit })]
def wI:Sg:=⟨[(true,dl),(true,dl)],[(false,.bool)],Vs⟩
theorem e55:tE om xQ 55 wI:=fun _=>by kernel_rfl
def ot:tL:=(55,wI)::om
theorem ou:tO ot:=SY oq e55
def xB:tA:=[(85,1,52,.loop { keep:=[0,1,7,5,6],kb:=[0,47,35,46],pl:=[.slot 8 false zJ,.box 43 [.ow false zJ false]],ex:=[(.exit 0,[(47,0,none)])],pay:=.unit }),(25,10,59,.loop { keep:=[0,1,15,31,47,23,39,19,35,27,43,17,33,25,41,21,37,29,45,4,16,32,40,20,36,28,44,18,34,26,42,14,22,38,30,46],kb:=[0,47,35,43,52],pl:=[.slot 3 false zJ,.slot 2 false zJ,.slot 48 false zJ],ex:=[(.ret,[(47,3,none)]),(.exit 1,[(47,3,none)])],pay:=.unit })]
def vZ:Sg:=⟨[(true,XL)],[zI,zI],U2⟩
theorem e25:tE ot xB 25 vZ:=fun _=>by kernel_rfl
def ov:tL:=(25,vZ)::ot
theorem oz:tO ov:=SY ou e25
def xJ:tA:=[(85,1,35,.loop { keep:=[0,1,7,5,6],kb:=[0,29,18,30],pl:=[.slot 8 false zJ,.box 26 [.ow false zJ false]],ex:=[(.exit 0,[(30,0,none)])],pay:=.unit })]
def v6:Sg:=⟨[(true,XL)],[(false,(.sl false zJ)),zI],Vm⟩
theorem e40:tE ov xJ 40 v6:=fun _=>by kernel_rfl
def o0:tL:=(40,v6)::ov
theorem o6:tO o0:=SY oz e40
def xh:tA:=[(145,2,31,.loop { keep:=[0,1,7,6],kb:=[0,1],pl:=[.slot 4 false zJ,.slot 8 false zJ],ex:=[(.ret,[]),(.exit 0,[])],pay:=.unit })]
def wg:Sg:=⟨[(true,XL),zI],[zI,zI],Wu⟩
theorem e82:tE o0 xh 82 wg:=fun _=>by kernel_rfl
def o7:tL:=(82,wg)::o0
theorem o8:tO o7:=SY o6 e82
def wB:Sg:=⟨[(true,XL),zI],[zI,zI],YG⟩
theorem e46:tE o7 [] 46 wB:=fun _=>by kernel_rfl
def o9:tL:=(46,wB)::o7
theorem pA:tO o9:=SY o8 e46
def vX:Sg:=⟨[(true,XL),zI],[zI,zI],X8⟩
theorem e23:tE o9 [] 23 vX:=fun _=>by kernel_rfl
def pB:tL:=(23,vX)::o9
theorem pC:tO pB:=SY pA e23
def w6:tA:=[(14,6,16,.loop { keep:=[0,1,15,11,19,5,17,13,4,16,12,20,14],kb:=[0],pl:=[.slot 3 false zJ,.slot 21 false zJ,.slot 2 false zJ,.slot 6 false zJ],ex:=[(.ret,[]),(.exit 0,[])],pay:=.unit })]
def vO:Sg:=⟨[(true,XL)],[zI,zI],ab⟩
theorem e14:tE pB w6 14 vO:=fun _=>by kernel_rfl
def pD:tL:=(14,vO)::pB
theorem pE:tO pD:=SY pC e14
def xf:tA:=[(144,1,27,.loop { keep:=[0,1,7,8,6],kb:=[0,17,21,22],pl:=[.slot 9 false zJ,.box 1 [.lf zJ],.box 2 [.lf zJ]],ex:=[(.exit 0,[(22,0,none)])],pay:=.unit }),(144,4,37,.loop { keep:=[0,1,7,15,11,9,13,4,8,16,12,6,10,14],kb:=[0,17,21,22,30],pl:=[.slot 5 false zJ,.box 1 [.lf zJ],.box 2 [.lf zJ]],ex:=[(.exit 2,[(22,0,none)])],pay:=.unit })]
def wc:Sg:=⟨[(true,T4)],[zI,zI,zI],W3⟩
theorem e80:tE pD xf 80 wc:=fun _=>by kernel_rfl
def pF:tL:=(80,wc)::pD
theorem pG:tO pF:=SY pE e80
def v7:Sg:=⟨[(true,XL)],[zI,zI,zI],WJ⟩
theorem e41:tE pF [] 41 v7:=fun _=>by kernel_rfl
def pH:tL:=(41,v7)::pF
theorem pI:tO pH:=SY pG e41
def vR:Sg:=⟨[(true,XL)],[zI,zI],W0⟩
theorem e16:tE pH [] 16 vR:=fun _=>by kernel_rfl
def pJ:tL:=(16,vR)::pH
theorem pK:tO pJ:=SY pI e16
def vQ:Sg:=⟨[(true,XL)],[zI,zI],Zn⟩
theorem e15:tE pJ [] 15 vQ:=fun _=>by kernel_rfl
def pL:tL:=(15,vQ)::pJ
theorem pM:tO pL:=SY pK e15
def sL:Sg:=⟨[(true,XL),zI],[(true,uN),zI],VI⟩
theorem yz:tE pL [] 162 sL:=fun _=>by kernel_rfl
def pN:tL:=(162,sL)::pL
theorem pO:tO pN:=SY pM yz
def sO:Sg:=⟨[(true,uN)],[(false,.bool)],UJ⟩
theorem y8:tE pN [] 164 sO:=fun _=>by kernel_rfl
def pP:tL:=(164,sO)::pN
theorem pQ:tO pP:=SY pO y8
end Go.Proofs.YtfipnhjfbebeiaaGreatDoor.Pt
