/- The evaluator comes to each of the plain functions. No condition. -/
import Derived.Test.YtfipnhjfbebeiabGreatDoorPt0
set_option linter.all false
namespace Go.Proofs.YtfipnhjfbebeiabGreatDoor.Pt
open Go Sv Pl
set_option maxRecDepth 1000000
def qm:Sg:=⟨[(true,T3)],[zI,zI],XV⟩
theorem xO:tE kn [] 111 qm:=fun _=>by kernel_rfl
def kq:tL:=(111,qm)::kn
theorem ku:tO kq:=SY ko xO
def wx:tA:=[(62,9,21,.loop { keep:=[0,1,3,7,15,23,11,19,25,13,21,2,8,16,24,12,20,10,18,26,14,22],kb:=[0],pl:=[.slot 9 false zJ,.slot 6 false zJ],ex:=[(.ret,[]),(.exit 0,[])],pay:=.unit })]
def vk:Sg:=⟨[(true,T3),zI,(false,(.sl false zJ))],[zI],WY⟩
theorem e62:tE kq wx 62 vk:=fun _=>by kernel_rfl
def kw:tL:=(62,vk)::kq
theorem ky:tO kw:=SY ku e62
def wc:tA:=[(21,7,18,.loop { keep:=[0,1,15,11,19,17,13,21,16,12,20,10,18,14],kb:=[0],pl:=[.slot 3 false zJ,.srow 5 false zJ false,.slot 2 false zJ,.slot 4 false zJ,.slot 6 false zJ],ex:=[(.ret,[]),(.exit 0,[])],pay:=.unit }),(21,13,35,.loop { keep:=[0,1,7,15,31,23,11,19,35,17,33,25,13,21,37,29,16,32,24,12,20,36,6,10,18,34,26,14,22,30],kb:=[0],pl:=[.slot 3 false zJ,.srow 5 false zJ false,.slot 2 false zJ,.slot 4 false zJ,.slot 8 false zJ],ex:=[(.ret,[]),(.exit 2,[])],pay:=.unit })]
def u9:Sg:=⟨[(true,T4)],[zI,zI,zI],U7⟩
theorem z8:tE kw wc 21 u9:=fun _=>by kernel_rfl
def kz:tL:=(21,u9)::kw
theorem lA:tO kz:=SY ky z8
def ww:tA:=[(56,6,16,.loop { keep:=[0,1,3,15,11,5,17,13,2,4,16,12,6,10,14],kb:=[0],pl:=[.srow 7 true T3 false,.slot 8 false zJ],ex:=[(.exit 0,[])],pay:=.unit }),(56,9,31,.loop { keep:=[0,1,3,15,31,23,11,19,27,5,17,33,13,21,29,2,4,8,16,32,12,20,28,6,10,26,14,22,30],kb:=[0],pl:=[.srow 7 true T3 false,.slot 9 false zJ],ex:=[(.exit 2,[])],pay:=.unit })]
def vg:Sg:=⟨[(true,T4)],[(false,(.sl true T3)),zI],WR⟩
theorem e56:tE kz ww 56 vg:=fun _=>by kernel_rfl
def lB:tL:=(56,vg)::kz
theorem lC:tO lB:=SY lA e56
def we:tA:=[(22,4,11,.loop { keep:=[0,1,3,7,11,9,2,4,8,10],kb:=[0],pl:=[.slot 5 false zJ,.slot 6 false zJ],ex:=[(.exit 0,[])],pay:=.unit })]
def vA:Sg:=⟨[(true,T4)],[zI],VU⟩
theorem z9:tE lB we 22 vA:=fun _=>by kernel_rfl
def lD:tL:=(22,vA)::lB
theorem lE:tO lD:=SY lC z9
def wg:tA:=[(23,3,4,.loop { keep:=[0,1,2],kb:=[0],pl:=[.srow 3 false zJ false,.slot 4 false zJ],ex:=[(.exit 0,[])],pay:=.unit })]
def vB:Sg:=⟨[(true,T4)],[(false,(.sl false zJ))],Uh⟩
theorem e23:tE lD wg 23 vB:=fun _=>by kernel_rfl
def lF:tL:=(23,vB)::lD
theorem lG:tO lF:=SY lE e23
def qn:Sg:=⟨[(true,T4),zI],[zI],Yi⟩
theorem xP:tE lF [] 112 qn:=fun _=>by kernel_rfl
def lH:tL:=(112,qn)::lF
theorem lI:tO lH:=SY lG xP
def vo:Sg:=⟨[(true,T4),zI],[(false,.bool),zI],YK⟩
theorem e64:tE lH [] 64 vo:=fun _=>by kernel_rfl
def lJ:tL:=(64,vo)::lH
theorem lK:tO lJ:=SY lI e64
def vC:Sg:=⟨[(true,T4),zI],[(false,.bool)],UV⟩
theorem e24:tE lJ [] 24 vC:=fun _=>by kernel_rfl
def lL:tL:=(24,vC)::lJ
theorem lM:tO lL:=SY lK e24
def tx:tA:=[(118,6,9,.loop { keep:=[0,7,11,9,8,12,10],kb:=[],pl:=[.slot 3 false zJ,.slot 2 false zJ,.slot 4 false zJ],ex:=[(.ret,[]),(.exit 0,[])],pay:=.unit })]
def qv:Sg:=⟨[(false,(.sl false (.sl true T2)))],[zI,zI],WD⟩
theorem xW:tE lL tx 118 qv:=fun _=>by kernel_rfl
def lN:tL:=(118,qv)::lL
theorem lO:tO lN:=SY lM xW
def uN:tA:=[(179,6,8,.loop { keep:=[0,7,5,9,4,8,6],kb:=[],pl:=[.slot 3 false zJ,.slot 2 false zJ],ex:=[(.ret,[]),(.exit 0,[])],pay:=.unit })]
def rq:Sg:=⟨[(false,(.sl true T5))],[zI],XW⟩
theorem yP:tE lN uN 179 rq:=fun _=>by kernel_rfl
def lQ:tL:=(179,rq)::lN
theorem lR:tO lQ:=SY lO yP
def sU:Sg:=⟨[(false,(.sl true T5)),zI,zI],[(false,.bool)],XB⟩
theorem yz:tE lQ [] 211 sU:=fun _=>by kernel_rfl
def lS:tL:=(211,sU)::lQ
theorem lT:tO lS:=SY lR yz
theorem yf (r:AP [(false,(.sl true T5)),zI]->Option (AP [zI,zI])) (x:AP [(false,(.sl true T5)),zI]):OU Tryz.prog (Ae pu ((200,⟨[(false,(.sl true T5)),zI],[zI,zI],r⟩)::lS)) (RM []) 3000 60 200 [(false,(.sl true T5)),zI] [zI,zI] x=UC r x:=by kernel_rfl
def lU:tL:=(200,⟨[(false,(.sl true T5)),zI],[zI,zI],NE (α:=AP [(false,(.sl true T5)),zI]) (β:=AP [zI,zI]) UC 100⟩)::lS
theorem lV:tO lU:=Ss lT yf (by rfl) (by rfl) 100
def uO:tA:=[(180,3,11,.loop { keep:=[0,3,5,9,2,8,6],kb:=[0],pl:=[.slot 4 false zJ,.box 8 [.ow true T5 false,.ow false zJ true,.lf zJ]],ex:=[(.exit 0,[])],pay:=.unit })]
def ru:Sg:=⟨[(false,(.sl true T5))],[(true,T7)],Xn⟩
theorem yQ:tE lU uO 180 ru:=fun _=>by kernel_rfl
def lW:tL:=(180,ru)::lU
theorem lX:tO lW:=SY lV yQ
end Go.Proofs.YtfipnhjfbebeiabGreatDoor.Pt
