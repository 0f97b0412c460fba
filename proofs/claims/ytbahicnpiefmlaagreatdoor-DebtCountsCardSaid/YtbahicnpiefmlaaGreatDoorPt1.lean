/- The evaluator comes to each of the plain functions. No condition. -/
import Derived.Test.YtbahicnpiefmlaaGreatDoorPt0
set_option linter.all false
namespace Go.Proofs.YtbahicnpiefmlaaGreatDoor.Pt
open Go Sv Pl
set_option maxRecDepth 1000000
def rT:tA:=[(145,9,21,.loop { keep:=[0,1,3,7,15,23,11,19,25,13,21,2,8,16,24,12,20,10,18,26,14,22],kb:=[0],pl:=[.slot 9 false zJ,.slot 6 false zJ],ex:=[(.ret,[]),(.exit 0,[])],pay:=.unit })]
def oS:Sg:=⟨[(true,T3),zI,(false,(.sl false zJ))],[zI],V8⟩
theorem u7:tE iw rT 145 oS:=fun _=>by kernel_rfl
def i0:tL:=(145,oS)::iw
theorem i5:tO i0:=SX iy u7
def uk:tA:=[(80,7,18,.loop { keep:=[0,1,15,11,19,17,13,21,16,12,20,10,18,14],kb:=[0],pl:=[.slot 3 false zJ,.srow 5 false zJ false,.slot 2 false zJ,.slot 4 false zJ,.slot 6 false zJ],ex:=[(.ret,[]),(.exit 0,[])],pay:=.unit }),(80,13,35,.loop { keep:=[0,1,7,15,31,23,11,19,35,17,33,25,13,21,37,29,16,32,24,12,20,36,6,10,18,34,26,14,22,30],kb:=[0],pl:=[.slot 3 false zJ,.srow 5 false zJ false,.slot 2 false zJ,.slot 4 false zJ,.slot 8 false zJ],ex:=[(.ret,[]),(.exit 2,[])],pay:=.unit })]
def uC:Sg:=⟨[(true,T4)],[zI,zI,zI],U7⟩
theorem yN:tE i0 uk 80 uC:=fun _=>by kernel_rfl
def i6:tL:=(80,uC)::i0
theorem i7:tO i6:=SX i5 yN
def ud:tA:=[(63,6,16,.loop { keep:=[0,1,3,15,11,5,17,13,2,4,16,12,6,10,14],kb:=[0],pl:=[.srow 7 true T3 false,.slot 8 false zJ],ex:=[(.exit 0,[])],pay:=.unit }),(63,9,31,.loop { keep:=[0,1,3,15,31,23,11,19,27,5,17,33,13,21,29,2,4,8,16,32,12,20,28,6,10,26,14,22,30],kb:=[0],pl:=[.srow 7 true T3 false,.slot 9 false zJ],ex:=[(.exit 2,[])],pay:=.unit })]
def tp:Sg:=⟨[(true,T4)],[(false,(.sl true T3)),zI],V0⟩
theorem yB:tE i6 ud 63 tp:=fun _=>by kernel_rfl
def i8:tL:=(63,tp)::i6
theorem i9:tO i8:=SX i7 yB
def um:tA:=[(81,4,11,.loop { keep:=[0,1,3,7,11,9,2,4,8,10],kb:=[0],pl:=[.slot 5 false zJ,.slot 6 false zJ],ex:=[(.exit 0,[])],pay:=.unit })]
def uD:Sg:=⟨[(true,T4)],[zI],U9⟩
theorem yO:tE i8 um 81 uD:=fun _=>by kernel_rfl
def jA:tL:=(81,uD)::i8
theorem jB:tO jA:=SX i9 yO
def un:tA:=[(82,3,4,.loop { keep:=[0,1,2],kb:=[0],pl:=[.srow 3 false zJ false,.slot 4 false zJ],ex:=[(.exit 0,[])],pay:=.unit })]
def uF:Sg:=⟨[(true,T4)],[(false,(.sl false zJ))],VN⟩
theorem yP:tE jA un 82 uF:=fun _=>by kernel_rfl
def jC:tL:=(82,uF)::jA
theorem jD:tO jC:=SX jB yP
def pB:Sg:=⟨[(true,T4),zI],[zI],YD⟩
theorem vi:tE jC [] 218 pB:=fun _=>by kernel_rfl
def jE:tL:=(218,pB)::jC
theorem jF:tO jE:=SX jD vi
def oT:Sg:=⟨[(true,T4),zI],[(false,.bool),zI],Xt⟩
theorem u9:tE jE [] 146 oT:=fun _=>by kernel_rfl
def jG:tL:=(146,oT)::jE
theorem jH:tO jG:=SX jF u9
def uG:Sg:=⟨[(true,T4),zI],[(false,.bool)],Uk⟩
theorem yQ:tE jG [] 83 uG:=fun _=>by kernel_rfl
def jI:tL:=(83,uG)::jG
theorem jJ:tO jI:=SX jH yQ
def sF:tA:=[(224,6,9,.loop { keep:=[0,7,11,9,8,12,10],kb:=[],pl:=[.slot 3 false zJ,.slot 2 false zJ,.slot 4 false zJ],ex:=[(.ret,[]),(.exit 0,[])],pay:=.unit })]
def pH:Sg:=⟨[(false,(.sl false (.sl true T2)))],[zI,zI],Vs⟩
theorem vq:tE jI sF 224 pH:=fun _=>by kernel_rfl
def jK:tL:=(224,pH)::jI
theorem jL:tO jK:=SX jJ vq
def sW:tA:=[(291,6,8,.loop { keep:=[0,7,5,9,4,8,6],kb:=[],pl:=[.slot 3 false zJ,.slot 2 false zJ],ex:=[(.ret,[]),(.exit 0,[])],pay:=.unit })]
def p9:Sg:=⟨[(false,(.sl true T5))],[zI],W1⟩
theorem wW:tE jK sW 291 p9:=fun _=>by kernel_rfl
def jM:tL:=(291,p9)::jK
theorem jN:tO jM:=SX jL wW
def qT:Sg:=⟨[(false,(.sl true T5)),zI,zI],[(false,.bool)],Wf⟩
theorem ww:tE jM [] 320 qT:=fun _=>by kernel_rfl
def jO:tL:=(320,qT)::jM
theorem jP:tO jO:=SX jN ww
theorem wo (r:AP [(false,(.sl true T5)),zI]->Option (AP [zI,zI])) (x:AP [(false,(.sl true T5)),zI]):OU Tryz.prog (Ae pu ((312,⟨[(false,(.sl true T5)),zI],[zI,zI],r⟩)::jO)) (RL []) 3000 60 312 [(false,(.sl true T5)),zI] [zI,zI] x=Tz r x:=by kernel_rfl
def jQ:tL:=(312,⟨[(false,(.sl true T5)),zI],[zI,zI],NE (α:=AP [(false,(.sl true T5)),zI]) (β:=AP [zI,zI]) Tz 100⟩)::jO
theorem jR:tO jQ:=Sr jP wo (by rfl) (by rfl) 100
def sX:tA:=[(292,3,11,.loop { keep:=[0,3,5,9,2,8,6],kb:=[0],pl:=[.slot 4 false zJ,.box 8 [.ow true T5 false,.ow false zJ true,.lf zJ]],ex:=[(.exit 0,[])],pay:=.unit })]
def qA:Sg:=⟨[(false,(.sl true T5))],[(true,T7)],XP⟩
theorem wX:tE jQ sX 292 qA:=fun _=>by kernel_rfl
def jS:tL:=(292,qA)::jQ
theorem jT:tO jS:=SX jR wX
def pf:Sg:=⟨[(false,(.sl true T5))],[(true,T7),zI],WG⟩
theorem wJ:tE jS [] 257 pf:=fun _=>by kernel_rfl
def jU:tL:=(257,pf)::jS
theorem jV:tO jU:=SX jT wJ
end Go.Proofs.YtbahicnpiefmlaaGreatDoor.Pt
