/- The evaluator comes to each of the plain functions. No condition. -/
import Derived.Test.YtfipnhjfbebeiaaGreatDoorPt0
set_option linter.all false
namespace Go.Proofs.YtfipnhjfbebeiaaGreatDoor.Pt
open Go Sv Pl
set_option maxRecDepth 1000000
def xV:tA:=[(67,9,21,.loop { keep:=[0,1,3,7,15,23,11,19,25,13,21,2,8,16,24,12,20,10,18,26,14,22],kb:=[0],pl:=[.slot 9 false zJ,.slot 6 false zJ],ex:=[(.ret,[]),(.exit 0,[])],pay:=.unit })]
def wQ:Sg:=⟨[(true,T3),zI,(false,(.sl false zJ))],[zI],WW⟩
theorem e67:tE lI xV 67 wQ:=fun _=>by kernel_rfl
def lK:tL:=(67,wQ)::lI
theorem lL:tO lK:=SY lJ e67
def xF:tA:=[(32,7,18,.loop { keep:=[0,1,15,11,19,17,13,21,16,12,20,10,18,14],kb:=[0],pl:=[.slot 3 false zJ,.srow 5 false zJ false,.slot 2 false zJ,.slot 4 false zJ,.slot 6 false zJ],ex:=[(.ret,[]),(.exit 0,[])],pay:=.unit }),(32,13,35,.loop { keep:=[0,1,7,15,31,23,11,19,35,17,33,25,13,21,37,29,16,32,24,12,20,36,6,10,18,34,26,14,22,30],kb:=[0],pl:=[.slot 3 false zJ,.srow 5 false zJ false,.slot 2 false zJ,.slot 4 false zJ,.slot 8 false zJ],ex:=[(.ret,[]),(.exit 2,[])],pay:=.unit })]
def vn:Sg:=⟨[(true,T4)],[zI,zI,zI],U3⟩
theorem e32:tE lK xF 32 vn:=fun _=>by kernel_rfl
def lM:tL:=(32,vn)::lK
theorem lN:tO lM:=SY lL e32
def xK:tA:=[(42,6,16,.loop { keep:=[0,1,3,15,11,5,17,13,2,4,16,12,6,10,14],kb:=[0],pl:=[.srow 7 true T3 false,.slot 8 false zJ],ex:=[(.exit 0,[])],pay:=.unit }),(42,9,31,.loop { keep:=[0,1,3,15,31,23,11,19,27,5,17,33,13,21,29,2,4,8,16,32,12,20,28,6,10,26,14,22,30],kb:=[0],pl:=[.srow 7 true T3 false,.slot 9 false zJ],ex:=[(.exit 2,[])],pay:=.unit })]
def v8:Sg:=⟨[(true,T4)],[(false,(.sl true T3)),zI],WK⟩
theorem e42:tE lM xK 42 v8:=fun _=>by kernel_rfl
def lO:tL:=(42,v8)::lM
theorem lR:tO lO:=SY lN e42
def xG:tA:=[(33,4,11,.loop { keep:=[0,1,3,7,11,9,2,4,8,10],kb:=[0],pl:=[.slot 5 false zJ,.slot 6 false zJ],ex:=[(.exit 0,[])],pay:=.unit })]
def vo:Sg:=⟨[(true,T4)],[zI],VP⟩
theorem e33:tE lO xG 33 vo:=fun _=>by kernel_rfl
def lS:tL:=(33,vo)::lO
theorem lT:tO lS:=SY lR e33
def xH:tA:=[(34,3,4,.loop { keep:=[0,1,2],kb:=[0],pl:=[.srow 3 false zJ false,.slot 4 false zJ],ex:=[(.exit 0,[])],pay:=.unit })]
def vp:Sg:=⟨[(true,T4)],[(false,(.sl false zJ))],Uh⟩
theorem e34:tE lS xH 34 vp:=fun _=>by kernel_rfl
def lU:tL:=(34,vp)::lS
theorem lV:tO lU:=SY lT e34
def rI:Sg:=⟨[(true,T4),zI],[zI],Yk⟩
theorem yE:tE lU [] 112 rI:=fun _=>by kernel_rfl
def lW:tL:=(112,rI)::lU
theorem lX:tO lW:=SY lV yE
def wS:Sg:=⟨[(true,T4),zI],[(false,.bool),zI],YO⟩
theorem e69:tE lW [] 69 wS:=fun _=>by kernel_rfl
def lY:tL:=(69,wS)::lW
theorem lZ:tO lY:=SY lX e69
def vq:Sg:=⟨[(true,T4),zI],[(false,.bool)],UU⟩
theorem e35:tE lY [] 35 vq:=fun _=>by kernel_rfl
def ld:tL:=(35,vq)::lY
theorem lg:tO ld:=SY lZ e35
def uU:tA:=[(118,6,9,.loop { keep:=[0,7,11,9,8,12,10],kb:=[],pl:=[.slot 3 false zJ,.slot 2 false zJ,.slot 4 false zJ],ex:=[(.ret,[]),(.exit 0,[])],pay:=.unit })]
def rO:Sg:=⟨[(false,(.sl false (.sl true T2)))],[zI,zI],WA⟩
theorem yK:tE ld uU 118 rO:=fun _=>by kernel_rfl
def lh:tL:=(118,rO)::ld
theorem lj:tO lh:=SY lg yK
def um:tA:=[(169,6,8,.loop { keep:=[0,7,5,9,4,8,6],kb:=[],pl:=[.slot 3 false zJ,.slot 2 false zJ],ex:=[(.ret,[]),(.exit 0,[])],pay:=.unit })]
def sU:Sg:=⟨[(false,(.sl true T5))],[zI],XZ⟩
theorem zD:tE lh um 169 sU:=fun _=>by kernel_rfl
def lm:tL:=(169,sU)::lh
theorem lq:tO lm:=SY lj zD
def tQ:Sg:=⟨[(false,(.sl true T5)),zI,zI],[(false,.bool)],XB⟩
theorem zo:tE lm [] 202 tQ:=fun _=>by kernel_rfl
def lr:tL:=(202,tQ)::lm
theorem lu:tO lr:=SY lq zo
theorem zd (r:AP [(false,(.sl true T5)),zI]->Option (AP [zI,zI])) (x:AP [(false,(.sl true T5)),zI]):OU Tryz.prog (Ae pu ((189,⟨[(false,(.sl true T5)),zI],[zI,zI],r⟩)::lr)) (RM []) 3000 60 189 [(false,(.sl true T5)),zI] [zI,zI] x=UC r x:=by kernel_rfl
def lw:tL:=(189,⟨[(false,(.sl true T5)),zI],[zI,zI],NE (α:=AP [(false,(.sl true T5)),zI]) (β:=AP [zI,zI]) UC 100⟩)::lr
theorem ly:tO lw:=Ss lu zd (by rfl) (by rfl) 100
def un:tA:=[(170,3,11,.loop { keep:=[0,3,5,9,2,8,6],kb:=[0],pl:=[.slot 4 false zJ,.box 8 [.ow true T5 false,.ow false zJ true,.lf zJ]],ex:=[(.exit 0,[])],pay:=.unit })]
def sV:Sg:=⟨[(false,(.sl true T5))],[(true,T7)],Xt⟩
theorem zE:tE lw un 170 sV:=fun _=>by kernel_rfl
def lz:tL:=(170,sV)::lw
theorem l7:tO lz:=SY ly zE
def sB:Sg:=⟨[(false,(.sl true T5))],[(true,T7),zI],Wh⟩
theorem ye:tE lz [] 142 sB:=fun _=>by kernel_rfl
def l8:tL:=(142,sB)::lz
theorem l9:tO l8:=SY l7 ye
end Go.Proofs.YtfipnhjfbebeiaaGreatDoor.Pt
