/- The evaluator comes to each of the plain functions. No condition. -/
import Derived.Test.YtiehjicadcamiaaGreatPt9
set_option linter.all false
open Bool renaming true->zt, false->zf
namespace Go.Proofs.YtiehjicadcamiaaGreat.Pt
open Go Sv Pl
set_option maxRecDepth 1000000
theorem e68(x:AO [(zt,T4),zI]):P6 Tryz.prog (Ae pu gD) (RU []) 3000 60 68 [(zt,T4),zI] zt T3 x=WB x:=by kernel_rfl
def gE:tL:=(4194372,⟨[(zt,T4),zI],[(zf,(.sl zt T3))],WB⟩)::gD
theorem jT:tO gE:=S2 (f:=68) jS e68
def qp:Sg:=⟨[(zt,T4),zI],[(zt,Yh),zI],U6⟩
theorem xP:tQ gE [] 116 qp:=fun _=>by kernel_rfl
def gF:tL:=(116,qp)::gE
theorem jU:tO gF:=Sj jT xP
def wa:tA:=[(83,3,98,.loop { keep:=[0,1,3,7,13,2,4,12,6,14],kb:=[0,1,92,90,70,54],pl:=[.slot 8 zf zJ,.box 91 [.lf zJ,.lf (.sl zt (.sl zt T3)),.ow zt Yh zf,.lf zJ]],ex:=[(.exit 0,[])],pay:=.unit }),(83,3,73,.loop { keep:=[0,1,3,7,13,2,4,12,6,14],kb:=[0,1,67,65,54],pl:=[.slot 8 zf zJ,.box 66 [.lf zJ,.lf (.sl zt (.sl zt T3)),.ow zt Yh zf,.lf zJ]],ex:=[(.exit 0,[])],pay:=.unit }),(83,7,116,.loop { keep:=[0,1,3,7,15,23,27,9,17,25,13,21,29,2,4,8,16,24,12,28,6,10,18,26,14,22,30],kb:=[0,1,91,92,90,70,54],pl:=[.slot 11 zf zJ,.box 112 [.lf zJ,.lf (.sl zf (.sl zt T2)),.lf (.sl zf zJ),.lf (.sl zt T5),.lf (.sl zf zJ),.lf zJ,.lf .bool,.lf .str,.lf .bool,.lf (.sl zt T2),.lf zJ]],ex:=[(.exit 2,[])],pay:=.unit }),(83,7,91,.loop { keep:=[0,1,3,7,15,23,27,9,17,25,13,21,29,2,4,8,16,24,12,28,6,10,18,26,14,22,30],kb:=[0,1,67,65,66,54],pl:=[.slot 11 zf zJ,.box 87 [.lf zJ,.lf (.sl zf (.sl zt T2)),.lf (.sl zf zJ),.lf (.sl zt T5),.lf (.sl zf zJ),.lf zJ,.lf .bool,.lf .str,.lf .bool,.lf (.sl zt T2),.lf zJ]],ex:=[(.exit 2,[])],pay:=.unit }),(83,7,117,.loop { keep:=[0,1,3,7,15,23,27,9,17,25,13,21,29,2,4,8,16,24,12,28,6,10,18,26,14,22,30],kb:=[0,1,91,92,98,90,70,54],pl:=[.slot 11 zf zJ,.box 113 [.lf zJ,.lf (.sl zf (.sl zt T2)),.lf (.sl zf zJ),.lf (.sl zt T5),.lf (.sl zf zJ),.lf zJ,.lf .bool,.lf .str,.lf .bool,.lf (.sl zt T2),.lf zJ]],ex:=[(.exit 2,[])],pay:=.unit }),(83,7,92,.loop { keep:=[0,1,3,7,15,23,27,9,17,25,13,21,29,2,4,8,16,24,12,28,6,10,18,26,14,22,30],kb:=[0,1,67,65,73,66,54],pl:=[.slot 11 zf zJ,.box 88 [.lf zJ,.lf (.sl zf (.sl zt T2)),.lf (.sl zf zJ),.lf (.sl zt T5),.lf (.sl zf zJ),.lf zJ,.lf .bool,.lf .str,.lf .bool,.lf (.sl zt T2),.lf zJ]],ex:=[(.exit 2,[])],pay:=.unit })]
def vD:Sg:=⟨[(zt,Xx),zI],[(zt,Xx),zI],WJ⟩
theorem e47:tQ gF wa 47 vD:=fun _=>by kernel_rfl
def gG:tL:=(47,vD)::gF
theorem jV:tO gG:=Sj jU e47
def uk:Sg:=⟨[(zt,Xx),zI],[(zt,Xx),(zf,.bool),zI],Wp⟩
theorem e24:tQ gG [] 24 uk:=fun _=>by kernel_rfl
def gH:tL:=(24,uk)::gG
theorem jW:tO gH:=Sj jV e24
def vF:Sg:=⟨[(zt,Xx)],[(zt,Xx),zI,(zf,.bool),zI],WE⟩
theorem e49:tQ gH [] 49 vF:=fun _=>by kernel_rfl
def gI:tL:=(49,vF)::gH
theorem jX:tO gI:=Sj jW e49
def wS:tA:=[(28,3,7,.loop { keep:=[0,1,5,2,4,8],kb:=[],pl:=[.slot 7 zf zJ,.srow 9 zf zJ zf,.srow 6 zf zJ zf,.box 1 [.lf zJ,.ow zt (.sl zt T3) zf,.ow zt Yh zf,.lf zJ],.box 0 [.lf zJ,.lf (.sl zt (.sl zt T3)),.lf (.sl zt Yh),.lf zJ],.box 2 [.lf zJ,.lf zJ,.lf zJ,.lf zJ,.lf zJ,.lf zJ,.lf zJ,.lf zJ,.lf zJ,.lf zJ,.lf zJ,.lf zJ,.lf zJ,.lf zJ,.lf zJ],.box 5 [.lf zJ,.lf zJ,.lf zJ,.lf zJ,.lf zJ,.lf zJ,.lf zJ,.lf zJ,.lf zJ,.lf zJ,.lf zJ,.lf zJ,.lf zJ,.lf zJ,.lf zJ]],ex:=[(.exit 0,[]),(.ret,[])],pay:=.unit })]
def uq:Sg:=⟨[(zt,Xx),zI],[(zt,Xx),(zt,bV),(zf,(.sl zf zJ)),zI],VS⟩
theorem e28:tQ gI wS 28 uq:=fun _=>by kernel_rfl
def gJ:tL:=(28,uq)::gI
theorem jY:tO gJ:=Sj jX e28
def wK:tA:=[(12,5,20,.loop { keep:=[0,1,7,23,19,27,5,17,25,21,2,4,16,24,20,6,18,26,22],kb:=[0,1],pl:=[.slot 9 zf zJ,.slot 8 zf zJ],ex:=[(.exit 0,[])],pay:=.unit }),(12,5,19,.loop { keep:=[0,1,7,23,19,27,5,17,25,21,2,4,16,24,20,6,18,26,22],kb:=[0,1],pl:=[.slot 9 zf zJ,.slot 8 zf zJ],ex:=[(.exit 0,[])],pay:=.unit }),(12,12,24,.loop { keep:=[0,1,7,23,19,27,9,17,25,21,45,2,4,8,16,24,20,44,18,26,22],kb:=[],pl:=[.slot 11 zf zJ,.srow 5 zt bV zf,.slot 6 zf zJ,.srow 10 zt bV zf,.box 1 [.lf zJ,.ow zt (.sl zt T3) zf,.ow zt Yh zf,.lf zJ],.box 0 [.lf zJ,.lf (.sl zt (.sl zt T3)),.lf (.sl zt Yh),.lf zJ]],ex:=[(.exit 2,[]),(.ret,[])],pay:=.unit }),(12,12,23,.loop { keep:=[0,1,7,23,19,27,9,17,25,21,45,2,4,8,16,24,20,44,18,26,22],kb:=[],pl:=[.slot 11 zf zJ,.srow 5 zt bV zf,.slot 6 zf zJ,.srow 10 zt bV zf,.box 1 [.lf zJ,.ow zt (.sl zt T3) zf,.ow zt Yh zf,.lf zJ],.box 0 [.lf zJ,.lf (.sl zt (.sl zt T3)),.lf (.sl zt Yh),.lf zJ]],ex:=[(.exit 2,[]),(.ret,[])],pay:=.unit })]
def ub:Sg:=⟨[(zt,Xx),(zf,(.sl zf zJ))],[(zt,Xx),(zf,(.sl zt bV)),zI],We⟩
theorem e12:tQ gJ wK 12 ub:=fun _=>by kernel_rfl
def gK:tL:=(12,ub)::gJ
theorem jZ:tO gK:=Sj jY e12
def tf:tA:=[(117,2,2,.loop { keep:=[0,1],kb:=[],pl:=[.slot 5 zf zJ,.slot 4 zf .bool],ex:=[(.ret,[]),(.exit 0,[])],pay:=.unit })]
def qq:Sg:=⟨[(zf,(.sl zt T2)),(zf,(.sl zt T2))],[(zf,.bool)],Wm⟩
theorem xQ:tQ gK tf 117 qq:=fun _=>by kernel_rfl
def gL:tL:=(117,qq)::gK
theorem ja:tO gL:=Sj jZ xQ
def vt:Sg:=⟨[(zt,T3),(zt,T3)],[(zf,.bool)],W2⟩
theorem e84:tQ gL [] 84 vt:=fun _=>by kernel_rfl
def gN:tL:=(84,vt)::gL
theorem jc:tO gN:=Sj ja e84
def wb:tA:=[(48,4,7,.loop { keep:=[0,1,7,9,8,6,10],kb:=[],pl:=[.slot 5 zf zJ,.slot 4 zf .bool],ex:=[(.ret,[]),(.exit 0,[])],pay:=.unit })]
def vE:Sg:=⟨[(zf,(.sl zt T3)),(zf,(.sl zt T3))],[(zf,.bool)],Wn⟩
theorem e48:tQ gN wb 48 vE:=fun _=>by kernel_rfl
def gO:tL:=(48,vE)::gN
theorem jd:tO gO:=Sj jc e48
def wR:tA:=[(25,4,18,.loop { keep:=[0,1,3,7,15,11,19,9,17,13,2,8,16,12,6,10,18,14],kb:=[0,1],pl:=[.slot 5 zf zJ,.slot 4 zf .bool],ex:=[(.ret,[]),(.exit 0,[])],pay:=.unit })]
def um:Sg:=⟨[(zt,T4),(zt,T4)],[(zf,.bool)],YE⟩
theorem e25:tQ gO wR 25 um:=fun _=>by kernel_rfl
def gP:tL:=(25,um)::gO
theorem je:tO gP:=Sj jd e25
def un:Sg:=⟨[(zt,Yh),(zt,Yh)],[(zf,.bool)],W3⟩
theorem e26:tQ gP [] 26 un:=fun _=>by kernel_rfl
def gQ:tL:=(26,un)::gP
theorem jf:tO gQ:=Sj je e26
def wI:tA:=[(10,4,26,.loop { keep:=[0,1,3,7,15,23,11,19,27,9,17,25,13,21,2,8,16,24,12,20,6,10,18,26,14,22],kb:=[0,1],pl:=[.slot 5 zf zJ,.slot 4 zf .bool],ex:=[(.ret,[]),(.exit 0,[])],pay:=.unit })]
def uY:Sg:=⟨[(zt,Xx),(zt,Xx)],[(zf,.bool)],WD⟩
theorem e10:tQ gQ wI 10 uY:=fun _=>by kernel_rfl
def gR:tL:=(10,uY)::gQ
theorem jg:tO gR:=Sj jf e10
def wL:tA:=[(13,4,7,.loop { keep:=[0,1,7,9,8,6,10],kb:=[],pl:=[.slot 5 zf zJ,.slot 4 zf .bool],ex:=[(.ret,[]),(.exit 0,[])],pay:=.unit })]
def uc:Sg:=⟨[(zf,(.sl zt bV)),(zf,(.sl zt bV))],[(zf,.bool)],XI⟩
theorem e13:tQ gR wL 13 uc:=fun _=>by kernel_rfl
def gS:tL:=(13,uc)::gR
theorem jh:tO gS:=Sj jg e13
end Go.Proofs.YtiehjicadcamiaaGreat.Pt
