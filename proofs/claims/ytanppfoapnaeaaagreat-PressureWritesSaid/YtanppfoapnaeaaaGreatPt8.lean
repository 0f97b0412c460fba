/- The evaluator comes to each of the plain functions. No condition. -/
import Derived.Test.YtanppfoapnaeaaaGreatPt7
set_option linter.all false
namespace Go.Proofs.YtanppfoapnaeaaaGreat.Pt
open Go Sv Pl
set_option maxRecDepth 1000000
def pw:tA:=[(140,3,3,.loop { keep:=[0,1,4],kb:=[],pl:=[.slot 5 false zJ,.slot 6 false zJ],ex:=[(.exit 0,[])],pay:=.unit })]
def oC:Sg:=⟨[(false,(.sl false (.sl true T2))),(false,(.sl false zJ))],[zI],Vl⟩
theorem uf:tQ cV pw 140 oC:=fun _=>by kernel_rfl
def cW:tL:=(140,oC)::cV
theorem fR:tO cW:=SS fQ uf
def pq:tA:=[(139,7,21,.loop { keep:=[0,1,15,23,11,27,5,17,25,13,21,4,16,24,12,18,26,14,22],kb:=[0],pl:=[.slot 3 false zJ,.slot 2 false zJ,.slot 6 false zJ],ex:=[(.ret,[]),(.exit 0,[])],pay:=.unit }),(139,15,38,.loop { keep:=[0,1,7,15,63,23,11,67,27,59,5,17,65,25,57,13,21,69,61,4,16,64,24,56,12,68,60,6,18,66,26,58,14,22,70,62],kb:=[0],pl:=[.slot 3 false zJ,.slot 2 false zJ,.slot 8 false zJ],ex:=[(.ret,[]),(.exit 2,[])],pay:=.unit })]
def oB:Sg:=⟨[(true,T9)],[zI,zI],Vk⟩
theorem ue:tQ cW pq 139 oB:=fun _=>by kernel_rfl
def cX:tL:=(139,oB)::cW
theorem fS:tO cX:=SS fR ue
def pW:tA:=[(120,3,4,.loop { keep:=[0,1,2],kb:=[0],pl:=[.slot 3 false zJ,.slot 4 false zJ],ex:=[(.exit 0,[])],pay:=.unit })]
def nY:Sg:=⟨[(true,bT)],[zI],V3⟩
theorem uL:tQ cX pW 120 nY:=fun _=>by kernel_rfl
def cY:tL:=(120,nY)::cX
theorem fT:tO cY:=SS fS uL
def pX:tA:=[(122,7,18,.loop { keep:=[0,15,11,19,5,17,13,16,12,20,6,14],kb:=[],pl:=[.srow 3 false zJ false,.srow 7 true T2 false,.srow 2 true T2 false,.slot 4 false zJ,.srow 8 false zJ false,.srow 9 false zJ true],ex:=[(.ret,[])],pay:=.unit,plx:=[.srow 3 false zJ false,.srow 2 true T2 false,.slot 4 false zJ] })]
def na:Sg:=⟨[(false,(.sl false (.sl true T2)))],[(false,(.sl true T2)),(false,(.sl false zJ)),zI],WX⟩
theorem uN:tQ cY pX 122 na:=fun _=>by kernel_rfl
def cZ:tL:=(122,na)::cY
theorem fU:tO cZ:=SS fT uN
def oZ:Sg:=⟨[(true,mV)],[zI],W4⟩
theorem vA:tQ cZ [] 173 oZ:=fun _=>by kernel_rfl
def ca:tL:=(173,oZ)::cZ
theorem fV:tO ca:=SS fU vA
def oO:Sg:=⟨[(true,mV),(true,T2)],[(false,.bool),(true,mV),zI],XU⟩
theorem uv:tQ ca [] 161 oO:=fun _=>by kernel_rfl
def cb:tL:=(161,oO)::ca
theorem fW:tO cb:=SS fV uv
def pz:tA:=[(143,6,12,.loop { keep:=[0,1,7,15,17,13,16,14],kb:=[],pl:=[.slot 5 false zJ,.slot 9 false zJ,.srow 4 true T2 false,.srow 8 true T2 false,.slot 6 false zJ,.box 8 [.lf .bool,.lf .str,.lf .bool]],ex:=[(.ret,[]),(.exit 0,[])],pay:=.unit })]
def oF:Sg:=⟨[(false,(.sl true T2)),(false,.bool)],[(false,(.sl true T2)),zI,zI],Wl⟩
theorem ui:tQ cb pz 143 oF:=fun _=>by kernel_rfl
def cc:tL:=(143,oF)::cb
theorem fX:tO cc:=SS fW ui
def ng:Sg:=⟨[(false,(.sl true T2)),(false,.bool)],[(false,(.sl true T2)),(true,mV)],VP⟩
theorem uO:tQ cc [] 123 ng:=fun _=>by kernel_rfl
def cd:tL:=(123,ng)::cc
theorem fY:tO cd:=SS fX uO
def pU:tA:=[(115,4,7,.loop { keep:=[0,1,7,9,8,6,10],kb:=[],pl:=[.slot 5 false zJ,.slot 4 false .bool],ex:=[(.ret,[]),(.exit 0,[])],pay:=.unit })]
def nS:Sg:=⟨[(false,(.sl true T2)),(false,(.sl true T2))],[(false,.bool)],Ue⟩
theorem uG:tQ cd pU 115 nS:=fun _=>by kernel_rfl
def cf:tL:=(115,nS)::cd
theorem fZ:tO cf:=SS fY uG
def nV:Sg:=⟨[(true,bT)],[zI],W6⟩
theorem uJ:tQ cf [] 118 nV:=fun _=>by kernel_rfl
def cg:tL:=(118,nV)::cf
theorem fa:tO cg:=SS fZ uJ
def pV:tA:=[(119,6,14,.loop { keep:=[0,1,3,11,5,9,13,2,4,8,12,10,14],kb:=[0],pl:=[.slot 7 false zJ,.slot 6 false zJ],ex:=[(.exit 0,[])],pay:=.unit })]
def nX:Sg:=⟨[(true,T9)],[zI,zI],XS⟩
theorem uK:tQ cg pV 119 nX:=fun _=>by kernel_rfl
def cj:tL:=(119,nX)::cg
theorem fb:tO cj:=SS fa uK
def sI:Sg:=⟨[(true,bT)],[zI,zI],UK⟩
theorem xI:tQ cj [] 84 sI:=fun _=>by kernel_rfl
def ck:tL:=(84,sI)::cj
theorem fc:tO ck:=SS fb xI
def nZ:Sg:=⟨[(true,T9)],[(true,T2),zI,(true,T9),zI],V2⟩
theorem uM:tQ ck [] 121 nZ:=fun _=>by kernel_rfl
def cm:tL:=(121,nZ)::ck
theorem fe:tO cm:=SS fc uM
def tj:tA:=[(85,11,32,.loop { keep:=[0,1,7,15,31,23,39,19,35,27,5,9,17,33,25,21,37,2,4,8,16,32,24,20,36,6,10,18,34,26,22,30],kb:=[0,1],pl:=[.slot 11 false zJ,.box 29 [.lf (.sl false (.sl true T2)),.lf (.sl false zJ),.lf (.sl true T5),.lf (.sl false zJ),.lf zJ,.lf .bool,.lf .str,.lf .bool,.lf (.sl true T2),.lf zJ]],ex:=[(.exit 0,[])],pay:=.unit })]
def sJ:Sg:=⟨[(true,bT),zI],[(true,bT),zI,zI],UU⟩
theorem xJ:tQ cm tj 85 sJ:=fun _=>by kernel_rfl
def cp:tL:=(85,sJ)::cm
theorem ff:tO cp:=SS fe xJ
end Go.Proofs.YtanppfoapnaeaaaGreat.Pt
