/- The evaluator comes to each of the plain functions. No condition. -/
import Derived.Test.YtanppfoapnaeaaaGreatPt9
set_option linter.all false
namespace Go.Proofs.YtanppfoapnaeaaaGreat.Pt
open Go Sv Pl
set_option maxRecDepth 1000000
def sS:Sg:=⟨[(true,T4),zI],[(true,gR),zI],Vn⟩
theorem xQ:tQ dF [] 92 sS:=fun _=>by kernel_rfl
def dG:tL:=(92,sS)::dF
theorem f9:tO dG:=SS f8 xQ
def sq:tA:=[(32,1002003,10,.join { keep:=[0,1,11,5,13,2,4,12,6,10,14],kb:=[0,1],pl0:=[.slot 7 false zJ],pl1:=[.slot 7 false zJ],ex:=[],pay:=.unit }),(32,1002002,10,.join { keep:=[0,1,7,11,5,13,2,4,12,6,10,14],kb:=[0,1],pl0:=[],pl1:=[.slot 28 false .bool],ex:=[],pay:=.unit }),(32,1008009,24,.join { keep:=[0,1,39,11,35,5,33,41,13,37,29,2,4,8,40,12,36,6,10,34,14,38,30],kb:=[0,1,16],pl0:=[.slot 7 false zJ],pl1:=[.slot 7 false zJ],ex:=[],pay:=.unit }),(32,1008008,24,.join { keep:=[0,1,7,39,11,35,5,33,41,13,37,29,2,4,8,40,12,36,6,10,34,14,38,30],kb:=[0,1,16],pl0:=[],pl1:=[.slot 48 false .bool],ex:=[],pay:=.unit }),(56,3,55,.loop { keep:=[0,1,3,7,13,2,4,12,6,14],kb:=[0,1,47,33,49,16],pl:=[.slot 8 false zJ,.box 48 [.lf zJ,.lf (.sl true (.sl true T3)),.ow true gR false,.lf zJ]],ex:=[(.exit 0,[])],pay:=.unit }),(56,7,73,.loop { keep:=[0,1,3,7,15,23,27,9,17,25,13,21,29,2,4,8,16,24,12,28,6,10,18,26,14,22,30],kb:=[0,1,47,33,49,16,48],pl:=[.slot 11 false zJ,.box 69 [.lf zJ,.lf (.sl false (.sl true T2)),.lf (.sl false zJ),.lf (.sl true T5),.lf (.sl false zJ),.lf zJ,.lf .bool,.lf .str,.lf .bool,.lf (.sl true T2),.lf zJ]],ex:=[(.exit 2,[])],pay:=.unit }),(56,7,74,.loop { keep:=[0,1,3,7,15,23,27,9,17,25,13,21,29,2,4,8,16,24,12,28,6,10,18,26,14,22,30],kb:=[0,1,47,55,33,49,16,48],pl:=[.slot 11 false zJ,.box 70 [.lf zJ,.lf (.sl false (.sl true T2)),.lf (.sl false zJ),.lf (.sl true T5),.lf (.sl false zJ),.lf zJ,.lf .bool,.lf .str,.lf .bool,.lf (.sl true T2),.lf zJ]],ex:=[(.exit 2,[])],pay:=.unit })]
def qq:Sg:=⟨[(true,eC),(false,(.sl true T2))],[(true,eC),zI],Wo⟩
theorem wI:tQ dG sq 32 qq:=fun _=>by kernel_rfl
def dH:tL:=(32,qq)::dG
theorem gA:tO dH:=SS f9 wI
def qY:Sg:=⟨[(true,ZM)],[(true,ZM),zI],Wq⟩
theorem vu:tQ dH [] 11 qY:=fun _=>by kernel_rfl
def dI:tL:=(11,qY)::dH
theorem gB:tO dI:=SS gA vu
def ql:Sg:=⟨[(true,T3),(false,(.sl true T2))],[(true,T3),zI,zI],WI⟩
theorem wD:tQ dI [] 27 ql:=fun _=>by kernel_rfl
def dJ:tL:=(27,ql)::dI
theorem gC:tO dJ:=SS gB wD
def vd:Sg:=⟨[(true,ZM),(false,(.sl true T2))],[(true,ZM),zI,zI],W9⟩
theorem e8:tQ dJ [] 8 vd:=fun _=>by kernel_rfl
def dK:tL:=(8,vd)::dJ
theorem gD:tO dK:=SS gC e8
def tH:tA:=[(48,2,2,.loop { keep:=[0,1],kb:=[],pl:=[.slot 5 false zJ,.slot 4 false .bool],ex:=[(.ret,[]),(.exit 0,[])],pay:=.unit })]
def rH:Sg:=⟨[(false,(.sl true T2)),(false,(.sl true T2))],[(false,.bool)],VQ⟩
theorem wX:tQ dK tH 48 rH:=fun _=>by kernel_rfl
def dL:tL:=(48,rH)::dK
theorem gE:tO dL:=SS gD wX
def qm:Sg:=⟨[(true,T3),(true,T3)],[(false,.bool)],X7⟩
theorem wE:tQ dL [] 28 qm:=fun _=>by kernel_rfl
def dM:tL:=(28,qm)::dL
theorem gF:tO dM:=SS gE wE
def nQ:Sg:=⟨[(true,T3),(true,T3)],[(false,.bool)],WO⟩
theorem uE:tQ dM [] 113 nQ:=fun _=>by kernel_rfl
def dN:tL:=(113,nQ)::dM
theorem gG:tO dN:=SS gF uE
def td:tA:=[(77,4,7,.loop { keep:=[0,1,7,9,8,6,10],kb:=[],pl:=[.slot 5 false zJ,.slot 4 false .bool],ex:=[(.ret,[]),(.exit 0,[])],pay:=.unit })]
def ry:Sg:=⟨[(false,(.sl true T3)),(false,(.sl true T3))],[(false,.bool)],V4⟩
theorem xB:tQ dN td 77 ry:=fun _=>by kernel_rfl
def dO:tL:=(77,ry)::dN
theorem gH:tO dO:=SS gG xB
def tI:tA:=[(49,4,18,.loop { keep:=[0,1,3,7,15,11,19,9,17,13,2,8,16,12,6,10,18,14],kb:=[0,1],pl:=[.slot 5 false zJ,.slot 4 false .bool],ex:=[(.ret,[]),(.exit 0,[])],pay:=.unit })]
def rI:Sg:=⟨[(true,T4),(true,T4)],[(false,.bool)],XV⟩
theorem wY:tQ dO tI 49 rI:=fun _=>by kernel_rfl
def dQ:tL:=(49,rI)::dO
theorem gI:tO dQ:=SS gH wY
def rJ:Sg:=⟨[(true,gR),(true,gR)],[(false,.bool)],WP⟩
theorem wZ:tQ dQ [] 50 rJ:=fun _=>by kernel_rfl
def dR:tL:=(50,rJ)::dQ
theorem gJ:tO dR:=SS gI wZ
def sj:tA:=[(29,4,26,.loop { keep:=[0,1,3,7,15,23,11,19,27,9,17,25,13,21,2,8,16,24,12,20,6,10,18,26,14,22],kb:=[0,1],pl:=[.slot 5 false zJ,.slot 4 false .bool],ex:=[(.ret,[]),(.exit 0,[])],pay:=.unit })]
def qn:Sg:=⟨[(true,eC),(true,eC)],[(false,.bool)],V5⟩
theorem wF:tQ dR sj 29 qn:=fun _=>by kernel_rfl
def dS:tL:=(29,qn)::dR
theorem gK:tO dS:=SS gJ wF
def ve:Sg:=⟨[(true,ZM),(true,ZM)],[(false,.bool)],Wp⟩
theorem e9:tQ dS [] 9 ve:=fun _=>by kernel_rfl
def dT:tL:=(9,ve)::dS
theorem gL:tO dT:=SS gK e9
def qX:Sg:=⟨[(true,ZM)],[(true,ZM),zI],WN⟩
theorem vt:tQ dT [] 10 qX:=fun _=>by kernel_rfl
def iX:tL:=(10,qX)::dT
theorem gN:tO iX:=SS gL vt
end Go.Proofs.YtanppfoapnaeaaaGreat.Pt
