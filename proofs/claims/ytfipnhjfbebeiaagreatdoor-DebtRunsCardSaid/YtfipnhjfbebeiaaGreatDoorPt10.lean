/- The evaluator comes to each of the plain functions. No condition. -/
import Derived.Test.YtfipnhjfbebeiaaGreatDoorPt9
set_option linter.all false
namespace Go.Proofs.YtfipnhjfbebeiaaGreatDoor.Pt
open Go Sv Pl
set_option maxRecDepth 1000000
def wJ:Sg:=⟨[(true,XL)],[(false,(.sl false zJ)),zI],Vz⟩
theorem e60:tE fe [] 60 wJ:=fun _=>by kernel_rfl
def ff:tL:=(60,wJ)::fe
theorem jS:tO ff:=SY jR e60
def uO:tA:=[(104,5,13,.loop { keep:=[0,1,7,15,11,9,13,2,12,6,10,14],kb:=[0],pl:=[.slot 5 false zJ,.slot 4 false zJ,.slot 8 false zJ],ex:=[(.ret,[]),(.exit 0,[])],pay:=.unit })]
def rB:Sg:=⟨[(true,XL),zI],[zI,zI],Uo⟩
theorem xy:tE ff uO 104 rB:=fun _=>by kernel_rfl
def fh:tL:=(104,rB)::ff
theorem jT:tO fh:=SY jS xy
def wL:Sg:=⟨[(true,XL),zI],[zI,zI],U5⟩
theorem e62:tE fh [] 62 wL:=fun _=>by kernel_rfl
def fi:tL:=(62,wL)::fh
theorem jU:tO fi:=SY jT e62
def ru:Sg:=⟨[zI,zI],[zI,zI],Xy⟩
theorem yZ:tE fi [] 139 ru:=fun _=>by kernel_rfl
def fj:tL:=(139,ru)::fi
theorem jV:tO fj:=SY jU yZ
def rC:Sg:=⟨[(true,XL),(true,ZL)],[(false,.bool)],WB⟩
theorem xz:tE fj [] 105 rC:=fun _=>by kernel_rfl
def fm:tL:=(105,rC)::fj
theorem jW:tO fm:=SY jV xz
def rD:Sg:=⟨[(true,XL),zI],[(false,.bool)],Xz⟩
theorem x0:tE fm [] 106 rD:=fun _=>by kernel_rfl
def fo:tL:=(106,rD)::fm
theorem jX:tO fo:=SY jW x0
def wK:Sg:=⟨[(true,XL),zI],[(false,.bool),zI],WL⟩
theorem e61:tE fo [] 61 wK:=fun _=>by kernel_rfl
def fq:tL:=(61,wK)::fo
theorem jY:tO fq:=SY jX e61
def xD:tA:=[(27,7,16,.loop { keep:=[0,1,15,11,19,5,9,17,13,4,12,10,18,14],kb:=[0],pl:=[.slot 3 false zJ,.slot 2 false zJ,.slot 6 false zJ],ex:=[(.ret,[]),(.exit 0,[])],pay:=.unit })]
def ve:Sg:=⟨[(true,XL)],[zI,zI],U6⟩
theorem zt:tE fq xD 27 ve:=fun _=>by kernel_rfl
def ft:tL:=(27,ve)::fq
theorem jZ:tO ft:=SY jY zt
def wM:Sg:=⟨[(true,XL),zI,zI],[(true,XL),zI,zI],XD⟩
theorem e63:tE ft [] 63 wM:=fun _=>by kernel_rfl
def fu:tL:=(63,wM)::ft
theorem ja:tO fu:=SY jZ e63
def rE:Sg:=⟨[(true,XL),zI],[zI,zI],XE⟩
theorem yA:tE fu [] 107 rE:=fun _=>by kernel_rfl
def fw:tL:=(107,rE)::fu
theorem jc:tO fw:=SY ja yA
def uQ:tA:=[(108,3,8,.loop { keep:=[0,1,3,7,11,2,12,6,10],kb:=[0,1],pl:=[.slot 8 false zJ,.box 5 [.lf zJ,.ow true (.sl true T3) false]],ex:=[(.exit 0,[])],pay:=.unit }),(108,9,9,.loop { keep:=[0,1,3,7,11,2,8,12,6,10],kb:=[0,1],pl:=[.box 5 [.lf zJ,.lf (.sl true (.sl true T3))]],ex:=[(.exit 2,[])],pay:=.unit,rel:=[(5,1)] })]
def rF:Sg:=⟨[(true,T4),zI,(false,(.sl true T3))],[(true,T4)],VK⟩
theorem yB:tE fw uQ 108 rF:=fun _=>by kernel_rfl
def fx:tL:=(108,rF)::fw
theorem jd:tO fx:=SY jc yB
theorem e70 (x:AP [(true,T4),zI]):Py Tryz.prog (Ae pu fx) (RM []) 3000 60 70 [(true,T4),zI] true T3 x=Vv x:=by kernel_rfl
def fy:tL:=(4194374,⟨[(true,T4),zI],[(false,(.sl true T3))],Vv⟩)::fx
theorem je:tO fy:=Sp (f:=70) jd e70
def rx:Sg:=⟨[(true,T4),zI],[(true,ZL),zI],Un⟩
theorem yc:tE fy [] 140 rx:=fun _=>by kernel_rfl
def f8:tL:=(140,rx)::fy
theorem jf:tO f8:=SY je yc
def xR:tA:=[(109,3,98,.loop { keep:=[0,1,3,7,13,2,4,12,6,14],kb:=[0,1,92,90,70,54],pl:=[.slot 8 false zJ,.box 91 [.lf zJ,.lf (.sl true (.sl true T3)),.ow true ZL false,.lf zJ]],ex:=[(.exit 0,[])],pay:=.unit }),(109,3,73,.loop { keep:=[0,1,3,7,13,2,4,12,6,14],kb:=[0,1,67,65,54],pl:=[.slot 8 false zJ,.box 66 [.lf zJ,.lf (.sl true (.sl true T3)),.ow true ZL false,.lf zJ]],ex:=[(.exit 0,[])],pay:=.unit }),(109,7,116,.loop { keep:=[0,1,3,7,15,23,27,9,17,25,13,21,29,2,4,8,16,24,12,28,6,10,18,26,14,22,30],kb:=[0,1,91,92,90,70,54],pl:=[.slot 11 false zJ,.box 112 [.lf zJ,.lf (.sl false (.sl true T2)),.lf (.sl false zJ),.lf (.sl true T5),.lf (.sl false zJ),.lf zJ,.lf .bool,.lf .str,.lf .bool,.lf (.sl true T2),.lf zJ]],ex:=[(.exit 2,[])],pay:=.unit }),(109,7,91,.loop { keep:=[0,1,3,7,15,23,27,9,17,25,13,21,29,2,4,8,16,24,12,28,6,10,18,26,14,22,30],kb:=[0,1,67,65,66,54],pl:=[.slot 11 false zJ,.box 87 [.lf zJ,.lf (.sl false (.sl true T2)),.lf (.sl false zJ),.lf (.sl true T5),.lf (.sl false zJ),.lf zJ,.lf .bool,.lf .str,.lf .bool,.lf (.sl true T2),.lf zJ]],ex:=[(.exit 2,[])],pay:=.unit }),(109,7,117,.loop { keep:=[0,1,3,7,15,23,27,9,17,25,13,21,29,2,4,8,16,24,12,28,6,10,18,26,14,22,30],kb:=[0,1,91,92,98,90,70,54],pl:=[.slot 11 false zJ,.box 113 [.lf zJ,.lf (.sl false (.sl true T2)),.lf (.sl false zJ),.lf (.sl true T5),.lf (.sl false zJ),.lf zJ,.lf .bool,.lf .str,.lf .bool,.lf (.sl true T2),.lf zJ]],ex:=[(.exit 2,[])],pay:=.unit }),(109,7,92,.loop { keep:=[0,1,3,7,15,23,27,9,17,25,13,21,29,2,4,8,16,24,12,28,6,10,18,26,14,22,30],kb:=[0,1,67,65,73,66,54],pl:=[.slot 11 false zJ,.box 88 [.lf zJ,.lf (.sl false (.sl true T2)),.lf (.sl false zJ),.lf (.sl true T5),.lf (.sl false zJ),.lf zJ,.lf .bool,.lf .str,.lf .bool,.lf (.sl true T2),.lf zJ]],ex:=[(.exit 2,[])],pay:=.unit })]
def wN:Sg:=⟨[(true,XL),zI],[(true,XL),zI],V0⟩
theorem e64:tE f8 xR 64 wN:=fun _=>by kernel_rfl
def f9:tL:=(64,wN)::f8
theorem jg:tO f9:=SY jf e64
end Go.Proofs.YtfipnhjfbebeiaaGreatDoor.Pt
