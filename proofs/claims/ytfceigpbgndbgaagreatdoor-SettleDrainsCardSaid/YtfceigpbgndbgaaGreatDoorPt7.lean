/- The evaluator comes to each of the plain functions. No condition. -/
import Derived.Test.YtfceigpbgndbgaaGreatDoorPt6
set_option linter.all false
open Bool renaming true->zt, false->zf
namespace Go.Proofs.YtfceigpbgndbgaaGreatDoor.Pt
open Go Sv Pl
set_option maxRecDepth 1000000
def yH:tA:=[(128,6,9,.loop { keep:=[0,7,11,9,8,12,10],kb:=[],pl:=[.slot 3 zf zJ,.slot 2 zf zJ,.slot 4 zf zJ],ex:=[(.ret,[]),(.exit 0,[])],pay:=.unit })]
def uo:Sg:=⟨[(zf,(.sl zf (.sl zt T2)))],[zI,zI],W1⟩
theorem AB6:tQ sU yH 128 uo:=fun _=>by kernel_rfl
def sW:tL:=(128,uo)::sU
theorem sX:tO sW:=S6 sV AB6
def yf:tA:=[(208,6,8,.loop { keep:=[0,7,5,9,4,8,6],kb:=[],pl:=[.slot 3 zf zJ,.slot 2 zf zJ],ex:=[(.ret,[]),(.exit 0,[])],pay:=.unit })]
def vk:Sg:=⟨[(zf,(.sl zt T5))],[zI],YS⟩
theorem ACn:tQ sW yf 208 vk:=fun _=>by kernel_rfl
def sY:tL:=(208,vk)::sW
theorem sZ:tO sY:=S6 sX ACn
def wS:Sg:=⟨[(zf,(.sl zt T5)),zI,zI],[(zf,.bool)],Xz⟩
theorem ADI:tQ sY [] 249 wS:=fun _=>by kernel_rfl
def hG:tL:=(249,wS)::sY
theorem kh:tO hG:=S6 sZ ADI
theorem AC4(r:AP [(zf,(.sl zt T5)),zI]->Option (AP [zI,zI]))(x:AP [(zf,(.sl zt T5)),zI]):Ou Tryz.prog (Ae pu ((234,⟨[(zf,(.sl zt T5)),zI],[zI,zI],r⟩)::hG)) (Rn []) 3000 60 234 [(zf,(.sl zt T5)),zI] [zI,zI] x=Ur r x:=by kernel_rfl
def iA:tL:=(234,⟨[(zf,(.sl zt T5)),zI],[zI,zI],Nb (α:=AP [(zf,(.sl zt T5)),zI]) (β:=AP [zI,zI]) Ur 100⟩)::hG
theorem ki:tO iA:=TS kh AC4 (by rfl) (by rfl) 100
def yg:tA:=[(209,3,11,.loop { keep:=[0,3,5,9,2,8,6],kb:=[0],pl:=[.slot 4 zf zJ,.box 8 [.ow zt T5 zf,.ow zf zJ zt,.lf zJ]],ex:=[(.exit 0,[])],pay:=.unit })]
def vn:Sg:=⟨[(zf,(.sl zt T5))],[(zt,T7)],Ym⟩
theorem ACo:tQ iA yg 209 vn:=fun _=>by kernel_rfl
def iB:tL:=(209,vn)::iA
theorem kj:tO iB:=S6 ki ACo
def vH:Sg:=⟨[(zf,(.sl zt T5))],[(zt,T7),zI],XY⟩
theorem ACT:tQ iB [] 178 vH:=fun _=>by kernel_rfl
def iC:tL:=(178,vH)::iB
theorem kl:tO iC:=S6 kj ACT
def yG:tA:=[(127,4,12,.loop { keep:=[0,1,15,11,5,9,13,4,12,10,14],kb:=[0,3,8,6],pl:=[.slot 7 zf zJ,.srow 6 zt T5 zf],ex:=[(.exit 0,[])],pay:=.unit })]
def un:Sg:=⟨[(zf,(.sl zf (.sl zt T2))),(zf,(.sl zf zJ))],[(zt,T9)],WY⟩
theorem AB5:tQ iC yG 127 un:=fun _=>by kernel_rfl
def iD:tL:=(127,un)::iC
theorem km:tO iD:=S6 kl AB5
def ui:Sg:=⟨[(zf,(.sl zf (.sl zt T2)))],[(zt,T9),zI,zI],ZT⟩
theorem AB1:tQ iD [] 123 ui:=fun _=>by kernel_rfl
def iE:tL:=(123,ui)::iD
theorem ko:tO iE:=S6 km AB1
def uj:Sg:=⟨[(zf,.bool)],[(zt,ss)],WZ⟩
theorem AB2:tQ iE [] 124 uj:=fun _=>by kernel_rfl
def iF:tL:=(124,uj)::iE
theorem kq:tO iF:=S6 ko AB2
def AAt:Sg:=⟨[(zf,(.sl zf (.sl zt T2))),(zf,.bool)],[(zt,gC),zI,zI],YU⟩
theorem e79:tQ iF [] 79 AAt:=fun _=>by kernel_rfl
def iG:tL:=(79,AAt)::iF
theorem kr:tO iG:=S6 kq e79
def AAc:Sg:=⟨[(zt,T4),zI,(zf,.bool)],[(zt,aO)],Ux⟩
theorem e49:tQ iG [] 49 AAc:=fun _=>by kernel_rfl
def iH:tL:=(49,AAc)::iG
theorem ks:tO iH:=S6 kr e49
def yJ:tA:=[(130,4,7,.loop { keep:=[0,1,7,9,8,6,10],kb:=[],pl:=[.slot 5 zf zJ,.slot 4 zf .bool],ex:=[(.ret,[]),(.exit 0,[])],pay:=.unit })]
def ur:Sg:=⟨[(zf,(.sl zf zJ)),(zf,(.sl zf zJ))],[(zf,.bool)],Yl⟩
theorem AB8:tQ iH yJ 130 ur:=fun _=>by kernel_rfl
def iI:tL:=(130,ur)::iH
theorem ku:tO iI:=S6 ks AB8
def yK:tA:=[(131,4,26,.loop { keep:=[0,1,3,7,15,23,11,19,27,9,17,25,13,21,2,8,16,24,12,20,6,10,18,26,14,22],kb:=[0,1],pl:=[.slot 5 zf zJ,.slot 4 zf .bool],ex:=[(.ret,[]),(.exit 0,[])],pay:=.unit })]
def us:Sg:=⟨[(zt,T7),(zt,T7)],[(zf,.bool)],Xx⟩
theorem AB9:tQ iI yK 131 us:=fun _=>by kernel_rfl
def iJ:tL:=(131,us)::iI
theorem kw:tO iJ:=S6 ku AB9
def yF:tA:=[(126,3,3,.loop { keep:=[0,1,4],kb:=[],pl:=[.slot 5 zf zJ,.slot 6 zf zJ],ex:=[(.exit 0,[])],pay:=.unit })]
def um:Sg:=⟨[(zf,(.sl zf (.sl zt T2))),(zf,(.sl zf zJ))],[zI],W0⟩
theorem AB4:tQ iJ yF 126 um:=fun _=>by kernel_rfl
def iK:tL:=(126,um)::iJ
theorem ky:tO iK:=S6 kw AB4
end Go.Proofs.YtfceigpbgndbgaaGreatDoor.Pt
