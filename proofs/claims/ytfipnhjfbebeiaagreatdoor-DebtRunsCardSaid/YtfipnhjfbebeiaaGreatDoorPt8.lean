/- The evaluator comes to each of the plain functions. No condition. -/
import Derived.Test.YtfipnhjfbebeiaaGreatDoorPt7
set_option linter.all false
namespace Go.Proofs.YtfipnhjfbebeiaaGreatDoor.Pt
open Go Sv Pl
set_option maxRecDepth 1000000
def ur:tA:=[(187,3,10,.loop { keep:=[0,1,3,19,5,9,21,2,4,8,20,10,22],kb:=[0,1,2],pl:=[.slot 23 false zJ,.map 4 zJ true ZL],ex:=[(.exit 0,[])],pay:=.unit }),(187,10,22,.loop { keep:=[0,1,3,23,39,19,35,5,33,13,21,37,2,4,8,32,20,36,10,34,22,38],kb:=[0,1,4],pl:=[.slot 9 false zJ,.slot 40 false zJ,.box 2 [.lf zJ,.ow true (.sl true T3) false,.ow true ZL false,.lf zJ],.box 16 [.lf zJ,.lf (.sl true (.sl true T3)),.ow true ZL false,.lf zJ]],ex:=[(.exit 2,[]),(.ret,[])],pay:=.unit })]
def sy:Sg:=⟨[(true,XL),(true,T4),zI,zI],[(true,XL),zI],UN⟩
theorem za:tE fA ur 187 sy:=fun _=>by kernel_rfl
def fB:tL:=(187,sy)::fA
theorem iv:tO fB:=SY iu za
def sR:Sg:=⟨[(true,XL),zI],[(true,XL),zI],WD⟩
theorem zA:tE fB [] 166 sR:=fun _=>by kernel_rfl
def fC:tL:=(166,sR)::fB
theorem iw:tO fC:=SY iv zA
def rq:Sg:=⟨[(true,XL),zI],[(true,XL),(false,.bool),zI],Uu⟩
theorem yY:tE fC [] 136 rq:=fun _=>by kernel_rfl
def fD:tL:=(136,rq)::fC
theorem iy:tO fD:=SY iw yY
def xC:tA:=[(95,3,25,.loop { keep:=[0,1,5,2,4,6],kb:=[0,3,19,9,18,14],pl:=[.box 13 [.lf zJ,.lf (.sl true (.sl true T3)),.lf (.sl true ZL),.lf zJ],.box 22 [.er 264 0 102 .i64],.box 20 [.lf zJ],.box 2 [.lf zJ,.lf (.sl true (.sl true T3)),.lf (.sl true ZL),.lf zJ],.box 1 [.lf zJ]],ex:=[(.ret,[(19,0,none)]),(.ret,[(19,2,some (.exit 0))])],pay:=.unit })]
def vd:Sg:=⟨[(true,XL),zI],[(true,XL),zI,zI],Wq⟩
theorem e26:tE fD xC 26 vd:=fun _=>by kernel_rfl
def fE:tL:=(26,vd)::fD
theorem i0:tO fE:=SY iy e26
def sg8:Sg:=⟨[(true,XL),zI],[(true,XL),zI,zI],XO⟩
theorem e8:tE fE [] 8 sg8:=fun _=>by kernel_rfl
def fF:tL:=(8,sg8)::fE
theorem i4:tO fF:=SY i0 e8
def vJ:Sg:=⟨[(true,XL)],[(true,XL),zI,zI],V2⟩
theorem e11:tE fF [] 11 vJ:=fun _=>by kernel_rfl
def fG:tL:=(11,vJ)::fF
theorem i5:tO fG:=SY i4 e11
def vY:Sg:=⟨[(true,XL)],[(false,.bool),zI],Y6⟩
theorem e24:tE fG [] 24 vY:=fun _=>by kernel_rfl
def fH:tL:=(24,vY)::fG
theorem i6:tO fH:=SY i5 e24
def sg7:Sg:=⟨[],[(false,.bool)],Ve⟩
theorem e7:tE fH [] 7 sg7:=fun _=>by kernel_rfl
def fI:tL:=(7,sg7)::fH
theorem i7:tO fI:=SY i6 e7
def an6:tA:=[(6,3,4,.loop { keep:=[0,1,2],kb:=[0],pl:=[.slot 3 false zJ,.slot 4 false zJ],ex:=[(.exit 0,[])],pay:=.unit }),(6,6,11,.loop { keep:=[0,1,7,11,9,2,4,8,6,10],kb:=[0],pl:=[.slot 3 false zJ,.slot 5 false zJ],ex:=[(.exit 2,[])],pay:=.unit })]
def sg6:Sg:=⟨[(true,XL)],[(false,.bool)],YI⟩
theorem e6:tE fI an6 6 sg6:=fun _=>by kernel_rfl
def fJ:tL:=(6,sg6)::fI
theorem i8:tO fJ:=SY i7 e6
def uW:tA:=[(120,4,7,.loop { keep:=[0,1,7,9,8,6,10],kb:=[],pl:=[.slot 5 false zJ,.slot 4 false .bool],ex:=[(.ret,[]),(.exit 0,[])],pay:=.unit })]
def rR:Sg:=⟨[(false,(.sl false zJ)),(false,(.sl false zJ))],[(false,.bool)],Xs⟩
theorem yM:tE fJ uW 120 rR:=fun _=>by kernel_rfl
def fK:tL:=(120,rR)::fJ
theorem i9:tO fK:=SY i8 yM
def uX:tA:=[(121,4,26,.loop { keep:=[0,1,3,7,15,23,11,19,27,9,17,25,13,21,2,8,16,24,12,20,6,10,18,26,14,22],kb:=[0,1],pl:=[.slot 5 false zJ,.slot 4 false .bool],ex:=[(.ret,[]),(.exit 0,[])],pay:=.unit })]
def rS:Sg:=⟨[(true,T7),(true,T7)],[(false,.bool)],W8⟩
theorem yN:tE fK uX 121 rS:=fun _=>by kernel_rfl
def fL:tL:=(121,rS)::fK
theorem jA:tO fL:=SY i9 yN
def uS:tA:=[(116,3,3,.loop { keep:=[0,1,4],kb:=[],pl:=[.slot 5 false zJ,.slot 6 false zJ],ex:=[(.exit 0,[])],pay:=.unit })]
def rM:Sg:=⟨[(false,(.sl false (.sl true T2))),(false,(.sl false zJ))],[zI],V9⟩
theorem yI:tE fL uS 116 rM:=fun _=>by kernel_rfl
def fM:tL:=(116,rM)::fL
theorem jB:tO fM:=SY jA yI
def uR:tA:=[(115,7,21,.loop { keep:=[0,1,15,23,11,27,5,17,25,13,21,4,16,24,12,18,26,14,22],kb:=[0],pl:=[.slot 3 false zJ,.slot 2 false zJ,.slot 6 false zJ],ex:=[(.ret,[]),(.exit 0,[])],pay:=.unit }),(115,15,38,.loop { keep:=[0,1,7,15,63,23,11,67,27,59,5,17,65,25,57,13,21,69,61,4,16,64,24,56,12,68,60,6,18,66,26,58,14,22,70,62],kb:=[0],pl:=[.slot 3 false zJ,.slot 2 false zJ,.slot 8 false zJ],ex:=[(.ret,[]),(.exit 2,[])],pay:=.unit })]
def rL:Sg:=⟨[(true,T9)],[zI,zI],V8⟩
theorem yH:tE fM uR 115 rL:=fun _=>by kernel_rfl
def fN:tL:=(115,rL)::fM
theorem jC:tO fN:=SY jB yH
def xY:tA:=[(74,3,4,.loop { keep:=[0,1,2],kb:=[0],pl:=[.slot 3 false zJ,.slot 4 false zJ],ex:=[(.exit 0,[])],pay:=.unit })]
def wW:Sg:=⟨[(true,dl)],[zI],WT⟩
theorem e74:tE fN xY 74 wW:=fun _=>by kernel_rfl
def fO:tL:=(74,wW)::fN
theorem jD:tO fO:=SY jC e74
end Go.Proofs.YtfipnhjfbebeiaaGreatDoor.Pt
