/- The evaluator comes to each of the plain functions. No condition. -/
import Derived.Test.YtfceigpbgndbgaaGreatDoorPt5
set_option linter.all false
open Bool renaming true->zt, false->zf
namespace Go.Proofs.YtfceigpbgndbgaaGreatDoor.Pt
open Go Sv Pl
set_option maxRecDepth 1000000
def ABQ:tA:=[(38,6,18,.loop { keep:=[0,1,7,15,11,19,9,17,13,8,16,12,6,10,18,14],kb:=[0],pl:=[.slot 3 zf zJ,.slot 2 zf zJ,.slot 4 zf zJ],ex:=[(.ret,[]),(.exit 0,[])],pay:=.unit })]
def AAR:Sg:=⟨[(zt,T3)],[zI,zI],YW⟩
theorem e38:tQ rV ABQ 38 AAR:=fun _=>by kernel_rfl
def ra:tL:=(38,AAR)::rV
theorem rf:tO ra:=S6 rZ e38
def ABY:tA:=[(54,2,2,.loop { keep:=[1,4],kb:=[],pl:=[.slot 0 zf zJ,.slot 5 zf zJ],ex:=[(.exit 0,[])],pay:=.unit })]
def AAh:Sg:=⟨[zI,zI],[zI],WS⟩
theorem e54:tQ ra ABY 54 AAh:=fun _=>by kernel_rfl
def ri:tL:=(54,AAh)::ra
theorem rm:tO ri:=S6 rf e54
def yq:tA:=[(233,2,2,.loop { keep:=[0,1,4],kb:=[],pl:=[.slot 5 zf zJ],ex:=[(.exit 0,[])],pay:=.unit })]
def wG:Sg:=⟨[(zf,.str),(zf,.str)],[zI],Xw⟩
theorem AC3:tQ ri yq 233 wG:=fun _=>by kernel_rfl
def rn:tL:=(233,wG)::ri
theorem rp:tO rn:=S6 rm AC3
def vj:Sg:=⟨[(zf,.str),(zf,.str)],[zI],XW⟩
theorem ACm:tQ rn [] 207 vj:=fun _=>by kernel_rfl
def rq:tL:=(207,vj)::rn
theorem ru:tO rq:=S6 rp ACm
def yT:tA:=[(175,4,6,.loop { keep:=[0,7,8,6],kb:=[],pl:=[.slot 3 zf zJ,.slot 2 zf zJ,.slot 4 zf zJ],ex:=[(.ret,[]),(.exit 0,[])],pay:=.unit })]
def vD:Sg:=⟨[(zf,(.sl zt T2))],[zI,zI],WR⟩
theorem ACQ:tQ rq yT 175 vD:=fun _=>by kernel_rfl
def rx:tL:=(175,vD)::rq
theorem ry:tO rx:=S6 ru ACQ
def uf:Sg:=⟨[(zt,T3)],[zI,zI],XX⟩
theorem ABy:tQ rx [] 119 uf:=fun _=>by kernel_rfl
def sB:tL:=(119,uf)::rx
theorem sC:tO sB:=S6 ry ABy
def ABf:tA:=[(76,9,21,.loop { keep:=[0,1,3,7,15,23,11,19,25,13,21,2,8,16,24,12,20,10,18,26,14,22],kb:=[0],pl:=[.slot 9 zf zJ,.slot 6 zf zJ],ex:=[(.ret,[]),(.exit 0,[])],pay:=.unit })]
def AAr:Sg:=⟨[(zt,T3),zI,(zf,(.sl zf zJ))],[zI],Wm⟩
theorem e76:tQ sB ABf 76 AAr:=fun _=>by kernel_rfl
def sE:tL:=(76,AAr)::sB
theorem sF:tO sE:=S6 sC e76
def ABT:tA:=[(45,7,18,.loop { keep:=[0,1,15,11,19,17,13,21,16,12,20,10,18,14],kb:=[0],pl:=[.slot 3 zf zJ,.srow 5 zf zJ zf,.slot 2 zf zJ,.slot 4 zf zJ,.slot 6 zf zJ],ex:=[(.ret,[]),(.exit 0,[])],pay:=.unit }),(45,13,35,.loop { keep:=[0,1,7,15,31,23,11,19,35,17,33,25,13,21,37,29,16,32,24,12,20,36,6,10,18,34,26,14,22,30],kb:=[0],pl:=[.slot 3 zf zJ,.srow 5 zf zJ zf,.slot 2 zf zJ,.slot 4 zf zJ,.slot 8 zf zJ],ex:=[(.ret,[]),(.exit 2,[])],pay:=.unit })]
def AAY:Sg:=⟨[(zt,T4)],[zI,zI,zI],WD⟩
theorem e45:tQ sE ABT 45 AAY:=fun _=>by kernel_rfl
def sG:tL:=(45,AAY)::sE
theorem sH:tO sG:=S6 sF e45
def ABX:tA:=[(53,6,16,.loop { keep:=[0,1,3,15,11,5,17,13,2,4,16,12,6,10,14],kb:=[0],pl:=[.srow 7 zt T3 zf,.slot 8 zf zJ],ex:=[(.exit 0,[])],pay:=.unit }),(53,9,31,.loop { keep:=[0,1,3,15,31,23,11,19,27,5,17,33,13,21,29,2,4,8,16,32,12,20,28,6,10,26,14,22,30],kb:=[0],pl:=[.srow 7 zt T3 zf,.slot 9 zf zJ],ex:=[(.exit 2,[])],pay:=.unit })]
def AAg:Sg:=⟨[(zt,T4)],[(zf,(.sl zt T3)),zI],Wf⟩
theorem e53:tQ sG ABX 53 AAg:=fun _=>by kernel_rfl
def sI:tL:=(53,AAg)::sG
theorem sJ:tO sI:=S6 sH e53
def ABU:tA:=[(46,4,11,.loop { keep:=[0,1,3,7,11,9,2,4,8,10],kb:=[0],pl:=[.slot 5 zf zJ,.slot 6 zf zJ],ex:=[(.exit 0,[])],pay:=.unit })]
def AAZ:Sg:=⟨[(zt,T4)],[zI],Wg⟩
theorem e46:tQ sI ABU 46 AAZ:=fun _=>by kernel_rfl
def sK:tL:=(46,AAZ)::sI
theorem sL:tO sK:=S6 sJ e46
def ABV:tA:=[(47,3,4,.loop { keep:=[0,1,2],kb:=[0],pl:=[.srow 3 zf zJ zf,.slot 4 zf zJ],ex:=[(.exit 0,[])],pay:=.unit })]
def AAa:Sg:=⟨[(zt,T4)],[(zf,(.sl zf zJ))],VM⟩
theorem e47:tQ sK ABV 47 AAa:=fun _=>by kernel_rfl
def sN:tL:=(47,AAa)::sK
theorem sO:tO sN:=S6 sL e47
def uh:Sg:=⟨[(zt,T4),zI],[zI],Y9⟩
theorem AB0:tQ sN [] 122 uh:=fun _=>by kernel_rfl
def sQ:tL:=(122,uh)::sN
theorem sR:tO sQ:=S6 sO AB0
def AAs:Sg:=⟨[(zt,T4),zI],[(zf,.bool),zI],ZU⟩
theorem e77:tQ sQ [] 77 AAs:=fun _=>by kernel_rfl
def sS:tL:=(77,AAs)::sQ
theorem sT:tO sS:=S6 sR e77
def AAb:Sg:=⟨[(zt,T4),zI],[(zf,.bool)],VI⟩
theorem e48:tQ sS [] 48 AAb:=fun _=>by kernel_rfl
def sU:tL:=(48,AAb)::sS
theorem sV:tO sU:=S6 sT e48
end Go.Proofs.YtfceigpbgndbgaaGreatDoor.Pt
