/- The evaluator comes to each of the plain functions. No condition. -/
import Derived.Test.YtanppfoapnaeaaaGreatPt5
set_option linter.all false
namespace Go.Proofs.YtanppfoapnaeaaaGreat.Pt
open Go Sv Pl
set_option maxRecDepth 1000000
def rt:Sg:=⟨[(true,T2)],[zI],Tx⟩
theorem w8:tQ lQ [] 74 rt:=fun _=>by kernel_rfl
def lS:tL:=(74,rt)::lQ
theorem lT:tO lS:=SS lR w8
def tJ:tA:=[(51,6,18,.loop { keep:=[0,1,7,15,11,19,9,17,13,8,16,12,6,10,18,14],kb:=[0],pl:=[.slot 3 false zJ,.slot 2 false zJ,.slot 4 false zJ],ex:=[(.ret,[]),(.exit 0,[])],pay:=.unit })]
def rK:Sg:=⟨[(true,T3)],[zI,zI],WJ⟩
theorem wa:tQ lS tJ 51 rK:=fun _=>by kernel_rfl
def lU:tL:=(51,rK)::lS
theorem lV:tO lU:=SS lT wa
def tu:tA:=[(90,2,2,.loop { keep:=[1,4],kb:=[],pl:=[.slot 0 false zJ,.slot 5 false zJ],ex:=[(.exit 0,[])],pay:=.unit })]
def sQ:Sg:=⟨[zI,zI],[zI],VZ⟩
theorem xO:tQ lU tu 90 sQ:=fun _=>by kernel_rfl
def lW:tL:=(90,sQ)::lU
theorem lX:tO lW:=SS lV xO
def p8:tA:=[(144,2,2,.loop { keep:=[0,1,4],kb:=[],pl:=[.slot 5 false zJ],ex:=[(.exit 0,[])],pay:=.unit })]
def oG:Sg:=⟨[(false,.str),(false,.str)],[zI],Wh⟩
theorem uj:tQ lW p8 144 oG:=fun _=>by kernel_rfl
def lY:tL:=(144,oG)::lW
theorem lZ:tO lY:=SS lX uj
def nh:Sg:=⟨[(false,.str),(false,.str)],[zI],WF⟩
theorem uQ:tQ lY [] 124 nh:=fun _=>by kernel_rfl
def ld:tL:=(124,nh)::lY
theorem lg:tO ld:=SS lZ uQ
def tn:tA:=[(86,4,6,.loop { keep:=[0,7,8,6],kb:=[],pl:=[.slot 3 false zJ,.slot 2 false zJ,.slot 4 false zJ],ex:=[(.ret,[]),(.exit 0,[])],pay:=.unit })]
def sK:Sg:=⟨[(false,(.sl true T2))],[zI,zI],U8⟩
theorem xK:tQ ld tn 86 sK:=fun _=>by kernel_rfl
def lh:tL:=(86,sK)::ld
theorem lj:tO lh:=SS lg xK
def rM:Sg:=⟨[(true,T3)],[zI,zI],WG⟩
theorem we:tQ lh [] 54 rM:=fun _=>by kernel_rfl
def lm:tL:=(54,rM)::lh
theorem lq:tO lm:=SS lj we
def tq:tA:=[(89,9,21,.loop { keep:=[0,1,3,7,15,23,11,19,25,13,21,2,8,16,24,12,20,10,18,26,14,22],kb:=[0],pl:=[.slot 9 false zJ,.slot 6 false zJ],ex:=[(.ret,[]),(.exit 0,[])],pay:=.unit })]
def sO:Sg:=⟨[(true,T3),zI,(false,(.sl false zJ))],[zI],VY⟩
theorem xN:tQ lm tq 89 sO:=fun _=>by kernel_rfl
def lr:tL:=(89,sO)::lm
theorem lu:tO lr:=SS lq xN
def te:tA:=[(79,7,18,.loop { keep:=[0,1,15,11,19,17,13,21,16,12,20,10,18,14],kb:=[0],pl:=[.slot 3 false zJ,.srow 5 false zJ false,.slot 2 false zJ,.slot 4 false zJ,.slot 6 false zJ],ex:=[(.ret,[]),(.exit 0,[])],pay:=.unit }),(79,13,35,.loop { keep:=[0,1,7,15,31,23,11,19,35,17,33,25,13,21,37,29,16,32,24,12,20,36,6,10,18,34,26,14,22,30],kb:=[0],pl:=[.slot 3 false zJ,.srow 5 false zJ false,.slot 2 false zJ,.slot 4 false zJ,.slot 8 false zJ],ex:=[(.ret,[]),(.exit 2,[])],pay:=.unit })]
def sC:Sg:=⟨[(true,T4)],[zI,zI,zI],Uv⟩
theorem xD:tQ lr te 79 sC:=fun _=>by kernel_rfl
def lw:tL:=(79,sC)::lr
theorem ly:tO lw:=SS lu xD
def tp:tA:=[(88,6,16,.loop { keep:=[0,1,3,15,11,5,17,13,2,4,16,12,6,10,14],kb:=[0],pl:=[.srow 7 true T3 false,.slot 8 false zJ],ex:=[(.exit 0,[])],pay:=.unit }),(88,9,31,.loop { keep:=[0,1,3,15,31,23,11,19,27,5,17,33,13,21,29,2,4,8,16,32,12,20,28,6,10,26,14,22,30],kb:=[0],pl:=[.srow 7 true T3 false,.slot 9 false zJ],ex:=[(.exit 2,[])],pay:=.unit })]
def sN:Sg:=⟨[(true,T4)],[(false,(.sl true T3)),zI],Vy⟩
theorem xM:tQ lw tp 88 sN:=fun _=>by kernel_rfl
def lz:tL:=(88,sN)::lw
theorem l7:tO lz:=SS ly xM
def tf:tA:=[(80,4,11,.loop { keep:=[0,1,3,7,11,9,2,4,8,10],kb:=[0],pl:=[.slot 5 false zJ,.slot 6 false zJ],ex:=[(.exit 0,[])],pay:=.unit })]
def sE:Sg:=⟨[(true,T4)],[zI],VS⟩
theorem xE:tQ lz tf 80 sE:=fun _=>by kernel_rfl
def l8:tL:=(80,sE)::lz
theorem l9:tO l8:=SS l7 xE
def th:tA:=[(81,3,4,.loop { keep:=[0,1,2],kb:=[0],pl:=[.srow 3 false zJ false,.slot 4 false zJ],ex:=[(.exit 0,[])],pay:=.unit })]
def sF:Sg:=⟨[(true,T4)],[(false,(.sl false zJ))],VA⟩
theorem xF:tQ l8 th 81 sF:=fun _=>by kernel_rfl
def mA:tL:=(81,sF)::l8
theorem mB:tO mA:=SS l9 xF
def sL:Sg:=⟨[(true,T4),zI],[zI],Xc⟩
theorem xL:tQ mA [] 87 sL:=fun _=>by kernel_rfl
def mC:tL:=(87,sL)::mA
theorem mD:tO mC:=SS mB xL
def nT:Sg:=⟨[(true,T4),zI],[(false,.bool),zI],Xq⟩
theorem uH:tQ mC [] 116 nT:=fun _=>by kernel_rfl
def mE:tL:=(116,nT)::mC
theorem mF:tO mE:=SS mD uH
end Go.Proofs.YtanppfoapnaeaaaGreat.Pt
