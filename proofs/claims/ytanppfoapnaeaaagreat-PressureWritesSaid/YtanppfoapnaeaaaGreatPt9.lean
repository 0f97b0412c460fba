/- The evaluator comes to each of the plain functions. No condition. -/
import Derived.Test.YtanppfoapnaeaaaGreatPt8
set_option linter.all false
namespace Go.Proofs.YtanppfoapnaeaaaGreat.Pt
open Go Sv Pl
set_option maxRecDepth 1000000
def pT:tA:=[(114,4,27,.loop { keep:=[0,1,3,7,15,23,11,19,27,9,17,25,13,21,2,8,16,24,12,20,28,6,10,18,26,14,22],kb:=[0,1],pl:=[.slot 5 false zJ,.slot 4 false .bool],ex:=[(.ret,[]),(.exit 0,[])],pay:=.unit })]
def nR:Sg:=⟨[(true,T9),(true,T9)],[(false,.bool)],XT⟩
theorem uF:tQ cp pT 114 nR:=fun _=>by kernel_rfl
def cq:tL:=(114,nR)::cp
theorem fh:tO cq:=SS ff uF
def sB:Sg:=⟨[(true,bT),(true,bT)],[(false,.bool)],UL⟩
theorem xC:tQ cq [] 78 sB:=fun _=>by kernel_rfl
def cr:tL:=(78,sB)::cq
theorem fi:tO cr:=SS fh xC
def tK:tA:=[(52,10,42,.loop { keep:=[0,1,7,31,23,39,19,35,27,43,5,17,33,49,25,41,21,37,29,45,4,16,32,48,24,40,20,36,28,44,6,18,34,50,26,42,22,38,30,46],kb:=[0],pl:=[.slot 3 false zJ,.slot 2 false zJ,.slot 8 false zJ],ex:=[(.ret,[]),(.exit 0,[])],pay:=.unit })]
def rL:Sg:=⟨[(true,eC)],[zI,zI],VH⟩
theorem wb:tQ cr tK 52 rL:=fun _=>by kernel_rfl
def cu:tL:=(52,rL)::cr
theorem fj:tO cu:=SS fi wb
def qo:Sg:=⟨[(true,ZM)],[zI],WK⟩
theorem wG:tQ cu [] 30 qo:=fun _=>by kernel_rfl
def cv:tL:=(30,qo)::cu
theorem fm:tO cv:=SS fj wG
def tD:tA:=[(45,5,27,.loop { keep:=[0,1,15,23,11,19,27,9,17,25,13,21,29,2,4,8,16,24,12,20,28,10,18,26,14,22],kb:=[0],pl:=[.slot 5 false zJ,.slot 6 false zJ],ex:=[(.exit 0,[])],pay:=.unit }),(45,5,26,.loop { keep:=[0,1,15,23,11,19,27,9,17,25,13,21,29,2,4,8,16,24,12,20,28,10,18,26,14,22],kb:=[0],pl:=[.slot 5 false zJ,.slot 6 false zJ],ex:=[(.exit 0,[])],pay:=.unit }),(45,9,28,.loop { keep:=[0,1,15,23,11,19,27,9,17,25,13,21,29,2,4,8,16,24,12,20,28,6,10,18,26,14,22],kb:=[0],pl:=[.slot 7 false zJ,.slot 5 false zJ],ex:=[(.exit 2,[])],pay:=.unit }),(45,9,27,.loop { keep:=[0,1,15,23,11,19,27,9,17,25,13,21,29,2,4,8,16,24,12,20,28,6,10,18,26,14,22],kb:=[0],pl:=[.slot 7 false zJ,.slot 5 false zJ],ex:=[(.exit 2,[])],pay:=.unit })]
def rE:Sg:=⟨[(true,ZM),(false,(.sl true T2))],[zI],XB⟩
theorem wU:tQ cv tD 45 rE:=fun _=>by kernel_rfl
def cw:tL:=(45,rE)::cv
theorem fo:tO cw:=SS fm wU
def tZ:tA:=[(75,5,18,.loop { keep:=[0,1,15,11,19,5,9,17,13,2,4,8,16,12,10,18,14],kb:=[0],pl:=[.slot 7 false zJ,.slot 6 false zJ],ex:=[(.exit 0,[])],pay:=.unit }),(75,5,17,.loop { keep:=[0,1,15,11,19,5,9,17,13,2,4,8,16,12,10,18,14],kb:=[0],pl:=[.slot 7 false zJ,.slot 6 false zJ],ex:=[(.exit 0,[])],pay:=.unit })]
def ru:Sg:=⟨[(true,T3),(false,(.sl true T2))],[zI],W7⟩
theorem w9:tQ cw tZ 75 ru:=fun _=>by kernel_rfl
def cx:tL:=(75,ru)::cw
theorem fq:tO cx:=SS fo w9
def tb:tA:=[(76,5,7,.loop { keep:=[0,1,3,5,4],kb:=[0],pl:=[.slot 7 false zJ,.slot 9 false zJ,.slot 8 false .bool,.srow 6 true T2 false],ex:=[(.exit 0,[])],pay:=.unit })]
def rx:Sg:=⟨[(false,(.sl true T2)),(true,T2)],[(false,(.sl true T2)),zI],XF⟩
theorem xA:tQ cx tb 76 rx:=fun _=>by kernel_rfl
def cy:tL:=(76,rx)::cx
theorem ft:tO cy:=SS fq xA
def tG:tA:=[(47,3,10,.loop { keep:=[0,1,11,5,13,2,4,12,14],kb:=[0,6],pl:=[.slot 7 false zJ,.slot 8 false zJ,.slot 6 false (.sl true T2)],ex:=[(.exit 0,[])],pay:=.unit,relS:=[6] })]
def rG:Sg:=⟨[(true,T3),(false,(.sl true T2))],[(false,(.sl true T2)),zI],WY⟩
theorem wW:tQ cy tG 47 rG:=fun _=>by kernel_rfl
def cz:tL:=(47,rG)::cy
theorem fu:tO cz:=SS ft wW
def rF:Sg:=⟨[(true,T3),(false,(.sl true T2))],[(false,.bool),zI],Wm⟩
theorem wV:tQ cz [] 46 rF:=fun _=>by kernel_rfl
def c0:tL:=(46,rF)::cz
theorem fw:tO c0:=SS fu wV
def qk:Sg:=⟨[(true,ZM),(false,(.sl true T2))],[(false,.bool),zI],W8⟩
theorem wC:tQ c0 [] 26 qk:=fun _=>by kernel_rfl
def dB:tL:=(26,qk)::c0
theorem fx:tO dB:=SS fw wC
def qp:Sg:=⟨[(true,ZM)],[(false,.bool)],XW⟩
theorem wH:tQ dB [] 31 qp:=fun _=>by kernel_rfl
def dC:tL:=(31,qp)::dB
theorem fy:tO dC:=SS fx wH
theorem wc(x:AP [(true,T4),zI]):Pw Tryz.prog (Ae pu dC) (RL []) 3000 60 53 [(true,T4),zI] true T3 x=U9 x:=by kernel_rfl
def dD:tL:=(4194357,⟨[(true,T4),zI],[(false,(.sl true T3))],U9⟩)::dC
theorem f6:tO dD:=Si (f:=53) fy wc
def tv:tA:=[(91,3,8,.loop { keep:=[0,1,3,7,11,2,12,6,10],kb:=[0,1],pl:=[.slot 8 false zJ,.box 5 [.lf zJ,.ow true (.sl true T3) false]],ex:=[(.exit 0,[])],pay:=.unit }),(91,9,9,.loop { keep:=[0,1,3,7,11,2,8,12,6,10],kb:=[0,1],pl:=[.box 5 [.lf zJ,.lf (.sl true (.sl true T3))]],ex:=[(.exit 2,[])],pay:=.unit,rel:=[(5,1)] })]
def sR:Sg:=⟨[(true,T4),zI,(false,(.sl true T3))],[(true,T4)],VX⟩
theorem xP:tQ dD tv 91 sR:=fun _=>by kernel_rfl
def dE:tL:=(91,sR)::dD
theorem f7:tO dE:=SS f6 xP
def tM:tA:=[(55,7,19,.loop { keep:=[0,1,3,7,15,23,11,5,17,13,21,2,8,16,24,20,6,10,14,22],kb:=[0,1,2],pl:=[.srow 9 false zJ false,.slot 12 false zJ],ex:=[(.exit 0,[])],pay:=.unit })]
def rN:Sg:=⟨[(true,T4),zI,(true,T3)],[(true,T4),zI],Wn⟩
theorem wg:tQ dE tM 55 rN:=fun _=>by kernel_rfl
def dF:tL:=(55,rN)::dE
theorem f8:tO dF:=SS f7 wg
end Go.Proofs.YtanppfoapnaeaaaGreat.Pt
