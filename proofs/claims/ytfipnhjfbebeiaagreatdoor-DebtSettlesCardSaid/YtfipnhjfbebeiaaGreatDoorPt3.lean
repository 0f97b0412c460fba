/- The evaluator comes to each of the plain functions. No condition. -/
import Derived.Test.YtfipnhjfbebeiaaGreatDoorPt2
set_option linter.all false
namespace Go.Proofs.YtfipnhjfbebeiaaGreatDoor.Pt
open Go Sv Pl
set_option maxRecDepth 1000000
def wo:tA:=[(78,4,27,.loop { keep:=[0,1,3,7,15,23,11,19,27,9,17,25,13,21,2,8,16,24,12,20,28,6,10,18,26,14,22],kb:=[0,1],pl:=[.slot 5 false zJ,.slot 4 false .bool],ex:=[(.ret,[]),(.exit 0,[])],pay:=.unit })]
def vk:Sg:=⟨[(true,T9),(true,T9)],[(false,.bool)],Xs⟩
theorem e78:tE l8 wo 78 vk:=fun _=>by kernel_rfl
def mB:tL:=(78,vk)::l8
theorem mC:tO mB:=SY l9 e78
def vB:Sg:=⟨[(true,dy),(true,dy)],[(false,.bool)],UZ⟩
theorem e39:tE mB [] 39 vB:=fun _=>by kernel_rfl
def mD:tL:=(39,vB)::mB
theorem mF:tO mD:=SY mC e39
def wG:tA:=[(13,10,42,.loop { keep:=[0,1,7,31,23,39,19,35,27,43,5,17,33,49,25,41,21,37,29,45,4,16,32,48,24,40,20,36,28,44,6,18,34,50,26,42,22,38,30,46],kb:=[0],pl:=[.slot 3 false zJ,.slot 2 false zJ,.slot 8 false zJ],ex:=[(.ret,[]),(.exit 0,[])],pay:=.unit })]
def ui:Sg:=⟨[(true,Yu)],[zI,zI],U5⟩
theorem zf:tE mD wG 13 ui:=fun _=>by kernel_rfl
def mG:tL:=(13,ui)::mD
theorem mH:tO mG:=SY mF zf
def wK:tA:=[(19,2,2,.loop { keep:=[0],kb:=[],pl:=[.slot 3 false zJ,.slot 2 false .bool],ex:=[(.ret,[]),(.exit 0,[])],pay:=.unit })]
def uq:Sg:=⟨[(false,(.sl true T2))],[(false,.bool)],Vd⟩
theorem zl:tE mG wK 19 uq:=fun _=>by kernel_rfl
def mJ:tL:=(19,uq)::mG
theorem mL:tO mJ:=SY mH zl
def wu:tA:=[(81,2,2,.loop { keep:=[0],kb:=[],pl:=[.slot 3 false zJ,.slot 2 false .bool],ex:=[(.ret,[]),(.exit 0,[])],pay:=.unit })]
def vp:Sg:=⟨[(false,(.sl true T2))],[(false,.bool)],W2⟩
theorem e81:tE mJ wu 81 vp:=fun _=>by kernel_rfl
def mM:tL:=(81,vp)::mJ
theorem mN:tO mM:=SY mL e81
def wX:tA:=[(44,2,2,.loop { keep:=[0],kb:=[],pl:=[.slot 3 false zJ,.slot 2 false .bool],ex:=[(.ret,[]),(.exit 0,[])],pay:=.unit })]
def vH:Sg:=⟨[(false,(.sl true T3))],[(false,.bool)],Vp⟩
theorem e44:tE mM wX 44 vH:=fun _=>by kernel_rfl
def mO:tL:=(44,vH)::mM
theorem mQ:tO mO:=SY mN e44
def wL:tA:=[(20,2,3,.loop { keep:=[0,1],kb:=[0],pl:=[.slot 3 false zJ,.slot 2 false .bool],ex:=[(.ret,[]),(.exit 0,[])],pay:=.unit })]
def ur:Sg:=⟨[(true,T4)],[(false,.bool)],Xm⟩
theorem zm:tE mO wL 20 ur:=fun _=>by kernel_rfl
def mS:tL:=(20,ur)::mO
theorem mT:tO mS:=SY mQ zm
def zZ:tA:=[(5,2,3,.loop { keep:=[0,1],kb:=[0],pl:=[.slot 3 false zJ,.slot 2 false .bool],ex:=[(.exit 0,[]),(.ret,[])],pay:=.unit }),(5,6,21,.loop { keep:=[0,1,3,7,11,19,9,17,13,21,4,8,12,20,6,10,18,14,22],kb:=[0,18],pl:=[.slot 5 false zJ,.slot 2 false .bool],ex:=[(.ret,[]),(.exit 2,[])],pay:=.unit })]
def zL:Sg:=⟨[(true,Yu)],[(false,.bool)],Xn⟩
theorem e5:tE mS zZ 5 zL:=fun _=>by kernel_rfl
def mU:tL:=(5,zL)::mS
theorem mV:tO mU:=SY mT e5
def wY:tA:=[(45,3,6,.loop { keep:=[0,1,7,9,2,6,10],kb:=[0],pl:=[.slot 8 false zJ,.box 3 [.lf zJ,.ow true T2 false]],ex:=[(.exit 0,[])],pay:=.unit })]
def vI:Sg:=⟨[zI,(false,.bool),(false,.str)],[(true,T3)],Za⟩
theorem e45:tE mU wY 45 vI:=fun _=>by kernel_rfl
def mW:tL:=(45,vI)::mU
theorem mX:tO mW:=SY mV e45
def ut:Sg:=⟨[],[(true,T4)],Yw⟩
theorem zo:tE mW [] 22 ut:=fun _=>by kernel_rfl
def mY:tL:=(22,ut)::mW
theorem mZ:tO mY:=SY mX zo
def wM:tA:=[(21,7,25,.loop { keep:=[0,1,3,7,15,23,11,5,17,25,13,21,2,4,8,16,24,12,20,6,10,26,14,22],kb:=[0,1],pl:=[.slot 9 false zJ,.box 19 [.lf zJ,.lf (.sl true (.sl true T3)),.ow true Z5 false,.lf zJ]],ex:=[(.exit 0,[])],pay:=.unit })]
def us:Sg:=⟨[(true,T4)],[(true,Yu),zI],al⟩
theorem zn:tE mY wM 21 us:=fun _=>by kernel_rfl
def ma:tL:=(21,us)::mY
theorem mb:tO ma:=SY mZ zn
def sB:Sg:=⟨[(false,.str)],[zI],W1⟩
theorem yV:tE ma [] 190 sB:=fun _=>by kernel_rfl
def mc:tL:=(190,sB)::ma
theorem md:tO mc:=SY mb yV
def rT:Sg:=⟨[(true,T2)],[zI],VF⟩
theorem yE:tE mc [] 172 rT:=fun _=>by kernel_rfl
def me:tL:=(172,rT)::mc
theorem mf:tO me:=SY md yE
def t6:tA:=[(146,4,8,.loop { keep:=[0,7,11,9,8,10],kb:=[],pl:=[.slot 3 false zJ,.slot 2 false zJ,.slot 12 false zJ],ex:=[(.ret,[]),(.exit 0,[])],pay:=.unit })]
def rB:Sg:=⟨[(false,(.sl true T2))],[zI,zI],Ue⟩
theorem xY:tE me t6 146 rB:=fun _=>by kernel_rfl
def mg:tL:=(146,rB)::me
theorem mh:tO mg:=SY mf xY
end Go.Proofs.YtfipnhjfbebeiaaGreatDoor.Pt
