/- The evaluator comes to each of the plain functions. No condition. -/
import Derived.Test.YtfceigpbgndbgaaGreatDoorPt9
set_option linter.all false
open Bool renaming true->zt, false->zf
namespace Go.Proofs.YtfceigpbgndbgaaGreatDoor.Pt
open Go Sv Pl
set_option maxRecDepth 1000000
def ve:Sg:=⟨[(zt,ZH),zI],[zI,zI],X6⟩
theorem ACk:tQ iu [] 205 ve:=fun _=>by kernel_rfl
def iv:tL:=(205,ve)::iu
theorem lh:tO iv:=S6 lg ACk
def yU:tA:=[(176,3,8,.loop { keep:=[0,1,3,7,11,2,12,6,10],kb:=[0,1],pl:=[.slot 8 zf zJ,.box 5 [.lf zJ,.ow zt (.sl zt T3) zf]],ex:=[(.exit 0,[])],pay:=.unit }),(176,9,9,.loop { keep:=[0,1,3,7,11,2,8,12,6,10],kb:=[0,1],pl:=[.box 5 [.lf zJ,.lf (.sl zt (.sl zt T3))]],ex:=[(.exit 2,[])],pay:=.unit,rel:=[(5,1)] })]
def vF:Sg:=⟨[(zt,T4),zI,(zf,(.sl zt T3))],[(zt,T4)],VW⟩
theorem ACR:tQ iv yU 176 vF:=fun _=>by kernel_rfl
def iw:tL:=(176,vF)::iv
theorem lj:tO iw:=S6 lh ACR
theorem e78(x:AP [(zt,T4),zI]):QO Tryz.prog (Ae pu iw) (Rn []) 3000 60 78 [(zt,T4),zI] zt T3 x=Vj x:=by kernel_rfl
def iy:tL:=(4194382,⟨[(zt,T4),zI],[(zf,(.sl zt T3))],Vj⟩)::iw
theorem lm:tO iy:=TN (f:=78) lj e78
def vG:Sg:=⟨[(zt,T4),zI],[(zt,aO),zI],VS⟩
theorem ACS:tQ iy [] 177 vG:=fun _=>by kernel_rfl
def i0:tL:=(177,vG)::iy
theorem lq:tO i0:=S6 lm ACS
def yR:tA:=[(121,3,98,.loop { keep:=[0,1,3,7,13,2,4,12,6,14],kb:=[0,1,92,90,70,54],pl:=[.slot 8 zf zJ,.box 91 [.lf zJ,.lf (.sl zt (.sl zt T3)),.ow zt aO zf,.lf zJ]],ex:=[(.exit 0,[])],pay:=.unit }),(121,3,73,.loop { keep:=[0,1,3,7,13,2,4,12,6,14],kb:=[0,1,67,65,54],pl:=[.slot 8 zf zJ,.box 66 [.lf zJ,.lf (.sl zt (.sl zt T3)),.ow zt aO zf,.lf zJ]],ex:=[(.exit 0,[])],pay:=.unit }),(121,7,116,.loop { keep:=[0,1,3,7,15,23,27,9,17,25,13,21,29,2,4,8,16,24,12,28,6,10,18,26,14,22,30],kb:=[0,1,91,92,90,70,54],pl:=[.slot 11 zf zJ,.box 112 [.lf zJ,.lf (.sl zf (.sl zt T2)),.lf (.sl zf zJ),.lf (.sl zt T5),.lf (.sl zf zJ),.lf zJ,.lf .bool,.lf .str,.lf .bool,.lf (.sl zt T2),.lf zJ]],ex:=[(.exit 2,[])],pay:=.unit }),(121,7,91,.loop { keep:=[0,1,3,7,15,23,27,9,17,25,13,21,29,2,4,8,16,24,12,28,6,10,18,26,14,22,30],kb:=[0,1,67,65,66,54],pl:=[.slot 11 zf zJ,.box 87 [.lf zJ,.lf (.sl zf (.sl zt T2)),.lf (.sl zf zJ),.lf (.sl zt T5),.lf (.sl zf zJ),.lf zJ,.lf .bool,.lf .str,.lf .bool,.lf (.sl zt T2),.lf zJ]],ex:=[(.exit 2,[])],pay:=.unit }),(121,7,117,.loop { keep:=[0,1,3,7,15,23,27,9,17,25,13,21,29,2,4,8,16,24,12,28,6,10,18,26,14,22,30],kb:=[0,1,91,92,98,90,70,54],pl:=[.slot 11 zf zJ,.box 113 [.lf zJ,.lf (.sl zf (.sl zt T2)),.lf (.sl zf zJ),.lf (.sl zt T5),.lf (.sl zf zJ),.lf zJ,.lf .bool,.lf .str,.lf .bool,.lf (.sl zt T2),.lf zJ]],ex:=[(.exit 2,[])],pay:=.unit }),(121,7,92,.loop { keep:=[0,1,3,7,15,23,27,9,17,25,13,21,29,2,4,8,16,24,12,28,6,10,18,26,14,22,30],kb:=[0,1,67,65,73,66,54],pl:=[.slot 11 zf zJ,.box 88 [.lf zJ,.lf (.sl zf (.sl zt T2)),.lf (.sl zf zJ),.lf (.sl zt T5),.lf (.sl zf zJ),.lf zJ,.lf .bool,.lf .str,.lf .bool,.lf (.sl zt T2),.lf zJ]],ex:=[(.exit 2,[])],pay:=.unit })]
def vA:Sg:=⟨[(zt,ZH),zI],[(zt,ZH),zI],Ws⟩
theorem ACN:tQ i0 yR 172 vA:=fun _=>by kernel_rfl
def i4:tL:=(172,vA)::i0
theorem lr:tO i4:=S6 lq ACN
def uc:Sg:=⟨[(zt,ZH),zI],[(zt,ZH),(zf,.bool),zI],WA⟩
theorem ABv:tQ i4 [] 115 uc:=fun _=>by kernel_rfl
def i5:tL:=(115,uc)::i4
theorem lu:tO i5:=S6 lr ABv
def ABc:tA:=[(70,7,24,.loop { keep:=[0,1,7,15,23,19,27,17,25,21,29,2,4,8,16,24,20,28,18,26,14,22,30],kb:=[],pl:=[.slot 5 zf zJ,.slot 9 zf zJ,.slot 6 zf zJ,.box 1 [.lf zJ,.lf (.sl zt (.sl zt T3)),.lf (.sl zt aO),.lf zJ],.box 0 [.lf zJ,.lf (.sl zt (.sl zt T3)),.lf (.sl zt aO),.lf zJ]],ex:=[(.exit 0,[]),(.ret,[])],pay:=.unit })]
def AAm:Sg:=⟨[(zt,ZH),zI],[(zt,ZH),zI,zI],ZN⟩
theorem e70:tQ i5 ABc 70 AAm:=fun _=>by kernel_rfl
def i6:tL:=(70,AAm)::i5
theorem lw:tO i6:=S6 lu e70
def AAS:Sg:=⟨[(zt,ZH)],[(zt,ZH),zI,zI],X7⟩
theorem e39:tQ i6 [] 39 AAS:=fun _=>by kernel_rfl
def i7:tL:=(39,AAS)::i6
theorem ly:tO i7:=S6 lw e39
def AAI:Sg:=⟨[(zt,aq)],[(zt,aq),zI,zI],Wt⟩
theorem e23:tQ i7 [] 23 AAI:=fun _=>by kernel_rfl
def i8:tL:=(23,AAI)::i7
theorem lz:tO i8:=S6 ly e23
def sg8:Sg:=⟨[(zt,aq)],[(zt,aq),zI,zI],Xa⟩
theorem e8:tQ i8 [] 8 sg8:=fun _=>by kernel_rfl
def i9:tL:=(8,sg8)::i8
theorem l7:tO i9:=S6 lz e8
def ABR:tA:=[(40,2,2,.loop { keep:=[0,1],kb:=[],pl:=[.slot 5 zf zJ,.slot 4 zf .bool],ex:=[(.ret,[]),(.exit 0,[])],pay:=.unit })]
def AAT:Sg:=⟨[(zf,(.sl zt T2)),(zf,(.sl zt T2))],[(zf,.bool)],We⟩
theorem e40:tQ i9 ABR 40 AAT:=fun _=>by kernel_rfl
def jA:tL:=(40,AAT)::i9
theorem l8:tO jA:=S6 l7 e40
def AAJ:Sg:=⟨[(zt,T3),(zt,T3)],[(zf,.bool)],Zp⟩
theorem e24:tQ jA [] 24 AAJ:=fun _=>by kernel_rfl
def jB:tL:=(24,AAJ)::jA
theorem l9:tO jB:=S6 l8 e24
def ud:Sg:=⟨[(zt,T3),(zt,T3)],[(zf,.bool)],Xe⟩
theorem ABw:tQ jB [] 116 ud:=fun _=>by kernel_rfl
def jC:tL:=(116,ud)::jB
theorem mB:tO jC:=S6 l9 ABw
def ABd:tA:=[(71,4,7,.loop { keep:=[0,1,7,9,8,6,10],kb:=[],pl:=[.slot 5 zf zJ,.slot 4 zf .bool],ex:=[(.ret,[]),(.exit 0,[])],pay:=.unit })]
def AAn:Sg:=⟨[(zf,(.sl zt T3)),(zf,(.sl zt T3))],[(zf,.bool)],XL⟩
theorem e71:tQ jC ABd 71 AAn:=fun _=>by kernel_rfl
def jD:tL:=(71,AAn)::jC
theorem mC:tO jD:=S6 mB e71
end Go.Proofs.YtfceigpbgndbgaaGreatDoor.Pt
