/- The evaluator comes to each of the plain functions. No condition. -/
import Derived.Test.YtiehjicadcamiaaGreatPt7
set_option linter.all false
open Bool renaming true->zt, false->zf
namespace Go.Proofs.YtiehjicadcamiaaGreat.Pt
open Go Sv Pl
set_option maxRecDepth 1000000
def sJ:tA:=[(108,7,21,.loop { keep:=[0,1,15,23,11,27,5,17,25,13,21,4,16,24,12,18,26,14,22],kb:=[0],pl:=[.slot 3 zf zJ,.slot 2 zf zJ,.slot 6 zf zJ],ex:=[(.ret,[]),(.exit 0,[])],pay:=.unit }),(108,15,38,.loop { keep:=[0,1,7,15,63,23,11,67,27,59,5,17,65,25,57,13,21,69,61,4,16,64,24,56,12,68,60,6,18,66,26,58,14,22,70,62],kb:=[0],pl:=[.slot 3 zf zJ,.slot 2 zf zJ,.slot 8 zf zJ],ex:=[(.ret,[]),(.exit 2,[])],pay:=.unit })]
def pY:Sg:=⟨[(zt,T9)],[zI,zI],WN⟩
theorem wI:tQ eX sJ 108 pY:=fun _=>by kernel_rfl
def eY:tL:=(108,pY)::eX
theorem iI:tO eY:=Sj iH wI
def vn:tA:=[(72,3,4,.loop { keep:=[0,1,2],kb:=[0],pl:=[.slot 3 zf zJ,.slot 4 zf zJ],ex:=[(.exit 0,[])],pay:=.unit })]
def ud:Sg:=⟨[(zt,da)],[zI],Wg⟩
theorem z8:tQ eY vn 72 ud:=fun _=>by kernel_rfl
def eZ:tL:=(72,ud)::eY
theorem iJ:tO eZ:=Sj iI z8
def vo:tA:=[(74,7,18,.loop { keep:=[0,15,11,19,5,17,13,16,12,20,6,14],kb:=[],pl:=[.srow 3 zf zJ zf,.srow 7 zt T2 zf,.srow 2 zt T2 zf,.slot 4 zf zJ,.srow 8 zf zJ zf,.srow 9 zf zJ zt],ex:=[(.ret,[])],pay:=.unit,plx:=[.srow 3 zf zJ zf,.srow 2 zt T2 zf,.slot 4 zf zJ] })]
def uf:Sg:=⟨[(zf,(.sl zf (.sl zt T2)))],[(zf,(.sl zt T2)),(zf,(.sl zf zJ)),zI],W5⟩
theorem e74:tQ eZ vo 74 uf:=fun _=>by kernel_rfl
def ec:tL:=(74,uf)::eZ
theorem iK:tO ec:=Sj iJ e74
def qm:Sg:=⟨[(zt,oJ)],[zI],Xi⟩
theorem xG:tQ ec [] 164 qm:=fun _=>by kernel_rfl
def eh:tL:=(164,qm)::ec
theorem iL:tO eh:=Sj iK xG
def qQ:Sg:=⟨[(zt,oJ),(zt,T2)],[(zf,.bool),(zt,oJ),zI],X7⟩
theorem wo:tQ eh [] 136 qQ:=fun _=>by kernel_rfl
def ei:tL:=(136,qQ)::eh
theorem iM:tO ei:=Sj iL wo
def sO:tA:=[(112,6,12,.loop { keep:=[0,1,7,15,17,13,16,14],kb:=[],pl:=[.slot 5 zf zJ,.slot 9 zf zJ,.srow 4 zt T2 zf,.srow 8 zt T2 zf,.slot 6 zf zJ,.box 8 [.lf .bool,.lf .str,.lf .bool]],ex:=[(.ret,[]),(.exit 0,[])],pay:=.unit })]
def pk:Sg:=⟨[(zf,(.sl zt T2)),(zf,.bool)],[(zf,(.sl zt T2)),zI,zI],XK⟩
theorem wM:tQ ei sO 112 pk:=fun _=>by kernel_rfl
def ej:tL:=(112,pk)::ei
theorem iN:tO ej:=Sj iM wM
def ug:Sg:=⟨[(zf,(.sl zt T2)),(zf,.bool)],[(zf,(.sl zt T2)),(zt,oJ)],V2⟩
theorem e75:tQ ej [] 75 ug:=fun _=>by kernel_rfl
def eu:tL:=(75,ug)::ej
theorem iO:tO eu:=Sj iN e75
def vq:tA:=[(77,4,7,.loop { keep:=[0,1,7,9,8,6,10],kb:=[],pl:=[.slot 5 zf zJ,.slot 4 zf .bool],ex:=[(.ret,[]),(.exit 0,[])],pay:=.unit })]
def ui:Sg:=⟨[(zf,(.sl zt T2)),(zf,(.sl zt T2))],[(zf,.bool)],VD⟩
theorem e77:tQ eu vq 77 ui:=fun _=>by kernel_rfl
def ew:tL:=(77,ui)::eu
theorem iQ:tO ew:=Sj iO e77
def ub:Sg:=⟨[(zt,da)],[zI],Xk⟩
theorem zw:tQ ew [] 70 ub:=fun _=>by kernel_rfl
def ez:tL:=(70,ub)::ew
theorem iR:tO ez:=Sj iQ zw
def vk:tA:=[(71,6,14,.loop { keep:=[0,1,3,11,5,9,13,2,4,8,12,10,14],kb:=[0],pl:=[.slot 7 zf zJ,.slot 6 zf zJ],ex:=[(.exit 0,[])],pay:=.unit })]
def uc:Sg:=⟨[(zt,T9)],[zI,zI],X5⟩
theorem zz:tQ ez vk 71 uc:=fun _=>by kernel_rfl
def fA:tL:=(71,uc)::ez
theorem iS:tO fA:=Sj iR zz
def uC:Sg:=⟨[(zt,da)],[zI,zI],Ug⟩
theorem zM:tQ fA [] 40 uC:=fun _=>by kernel_rfl
def fB:tL:=(40,uC)::fA
theorem iT:tO fB:=Sj iS zM
def ue:Sg:=⟨[(zt,T9)],[(zt,T2),zI,(zt,T9),zI],Wf⟩
theorem z9:tQ fB [] 73 ue:=fun _=>by kernel_rfl
def fC:tL:=(73,ue)::fB
theorem iU:tO fC:=Sj iT z9
def vU:tA:=[(41,11,32,.loop { keep:=[0,1,7,15,31,23,39,19,35,27,5,9,17,33,25,21,37,2,4,8,16,32,24,20,36,6,10,18,34,26,22,30],kb:=[0,1],pl:=[.slot 11 zf zJ,.box 29 [.lf (.sl zf (.sl zt T2)),.lf (.sl zf zJ),.lf (.sl zt T5),.lf (.sl zf zJ),.lf zJ,.lf .bool,.lf .str,.lf .bool,.lf (.sl zt T2),.lf zJ]],ex:=[(.exit 0,[])],pay:=.unit })]
def uD:Sg:=⟨[(zt,da),zI],[(zt,da),zI,zI],Ub⟩
theorem zN:tQ fC vU 41 uD:=fun _=>by kernel_rfl
def fD:tL:=(41,uD)::fC
theorem iV:tO fD:=Sj iU zN
def vp:tA:=[(76,4,27,.loop { keep:=[0,1,3,7,15,23,11,19,27,9,17,25,13,21,2,8,16,24,12,20,28,6,10,18,26,14,22],kb:=[0,1],pl:=[.slot 5 zf zJ,.slot 4 zf .bool],ex:=[(.ret,[]),(.exit 0,[])],pay:=.unit })]
def uh:Sg:=⟨[(zt,T9),(zt,T9)],[(zf,.bool)],X6⟩
theorem e76:tQ fD vp 76 uh:=fun _=>by kernel_rfl
def fE:tL:=(76,uh)::fD
theorem iW:tO fE:=Sj iV e76
end Go.Proofs.YtiehjicadcamiaaGreat.Pt
