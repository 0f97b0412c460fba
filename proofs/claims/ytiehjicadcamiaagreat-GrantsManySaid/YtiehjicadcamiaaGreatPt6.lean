/- The evaluator comes to each of the plain functions. No condition. -/
import Derived.Test.YtiehjicadcamiaaGreatPt5
set_option linter.all false
open Bool renaming true->zt, false->zf
namespace Go.Proofs.YtiehjicadcamiaaGreat.Pt
open Go Sv Pl
set_option maxRecDepth 1000000
def vw:Sg:=⟨[(zt,Xx),zI],[(zt,tR),zI],Vc⟩
theorem e87:tQ oJ [] 87 vw:=fun _=>by kernel_rfl
def oL:tL:=(87,vw)::oJ
theorem oM:tO oL:=Sj oK e87
def v6:Sg:=⟨[(zt,tR)],[(zf,.bool)],Uc⟩
theorem e89:tQ oL [] 89 v6:=fun _=>by kernel_rfl
def oN:tL:=(89,v6)::oL
theorem oO:tO oN:=Sj oM e89
def rK:Sg:=⟨[zI,zI],[zI,zI],Xk⟩
theorem xu:tQ oN [] 137 rK:=fun _=>by kernel_rfl
def oQ:tL:=(137,rK)::oN
theorem oR:tO oQ:=Sj oO xu
def qt:Sg:=⟨[(zt,tR)],[(zf,.bool)],Uq⟩
theorem xR:tQ oQ [] 118 qt:=fun _=>by kernel_rfl
def oS:tL:=(118,qt)::oQ
theorem oT:tO oS:=Sj oR xR
def rM:Sg:=⟨[(zt,T4),zI],[zI],W9⟩
theorem xz:tQ oS [] 139 rM:=fun _=>by kernel_rfl
def oU:tL:=(139,rM)::oS
theorem oV:tO oU:=Sj oT xz
def rL:Sg:=⟨[(zt,T4),zI],[(zf,.bool),zI],Xj⟩
theorem xy:tQ oU [] 138 rL:=fun _=>by kernel_rfl
def oW:tL:=(138,rL)::oU
theorem oX:tO oW:=Sj oV xy
def qu:Sg:=⟨[(zt,tR)],[(zf,.bool)],Vs⟩
theorem xS:tQ oW [] 119 qu:=fun _=>by kernel_rfl
def oY:tL:=(119,qu)::oW
theorem oZ:tO oY:=Sj oX xS
def w6:tA:=[(88,2,11,.loop { keep:=[0,1,7,11,5,9,8,12,6,10],kb:=[0],pl:=[.slot 13 zf zJ,.slot 2 zf .bool],ex:=[(.ret,[]),(.exit 0,[])],pay:=.unit })]
def vz:Sg:=⟨[(zt,tR)],[(zf,.bool)],Uz⟩
theorem e88:tQ oY w6 88 vz:=fun _=>by kernel_rfl
def oa:tL:=(88,vz)::oY
theorem oc:tO oa:=Sj oZ e88
def wc:tA:=[(53,8,21,.loop { keep:=[0,1,15,23,11,19,17,13,21,4,16,24,12,20,10,14,22],kb:=[0],pl:=[.slot 3 zf zJ,.slot 5 zf .bool,.slot 25 zf zJ,.slot 2 zf zJ],ex:=[(.ret,[]),(.exit 1,[])],pay:=.unit })]
def vG:Sg:=⟨[(zt,Xx)],[zI,zI],Ut⟩
theorem e53:tQ oa wc 53 vG:=fun _=>by kernel_rfl
def od:tL:=(53,vG)::oa
theorem oe:tO od:=Sj oc e53
theorem yq:MG Tryz.prog (λf=> !pu f) 1000 100 120=zt:=by kernel_rfl
theorem xT(a:Ty.den Yh)(l:List (Ty.den Yh)):OZ Tryz.prog (Ae pu od) (RU []) 3000 60 120 [(zf,(.sl zt Yh))] [(zf,(.sl zt Yh))] (a::l)=Ul (a::l):=by kernel_rfl
def og:tL:=(120,⟨[(zf,(.sl zt Yh))],[(zf,(.sl zt Yh))],Ul⟩)::od
theorem oh:tO og:=Sk (gg:=true) (c:=Yh) oe yq rfl xT
theorem yz:O2 Tryz.prog (λf=> !pu f) 1000 100 120=zt:=by kernel_rfl
theorem zC(a:Ty.den Yh)(l:List (Ty.den Yh)):QA Tryz.prog (Ae pu og) (RU []) 3000 60 120 [(zf,(.sl zt Yh))] zt Yh (a::l)=Ul (a::l):=by kernel_rfl
def oi:tL:=(120+Ct,⟨[(zf,(.sl zt Yh))],[(zf,(.sl zt Yh))],Ul⟩)::og
theorem om:tO oi:=Sl (gg:=true) (c:=Yh) oh yz rfl (λa l y h=>SN h) zC
def v7:Sg:=⟨[(zt,Xx),zI,zI],[(zt,Xx),zI,zI],YW⟩
theorem e90:tQ oi [] 90 v7:=fun _=>by kernel_rfl
def oq:tL:=(90,v7)::oi
theorem ot:tO oq:=Sj om e90
def tz:tA:=[(141,5,30,.loop { keep:=[0,1,3,7,15,31,23,11,19,27,9,17,25,13,21,29,2,16,32,24,12,20,28,6,10,18,26,14,22,30],kb:=[0,1,12,10],pl:=[.slot 8 zf zJ],ex:=[(.exit 0,[])],pay:=.unit })]
def rN:Sg:=⟨[(zt,T4),zI,(zf,(.sl zt T3))],[(zt,T4)],WM⟩
theorem x0:tQ oq tz 141 rN:=fun _=>by kernel_rfl
def ou:tL:=(141,rN)::oq
theorem ov:tO ou:=Sj ot x0
def qv:Sg:=⟨[(zt,T4),zI],[(zt,T4),(zf,(.sl zt T3)),zI],V4⟩
theorem xU:tQ ou [] 121 qv:=fun _=>by kernel_rfl
def oz:tL:=(121,qv)::ou
theorem o0:tO oz:=Sj ov xU
end Go.Proofs.YtiehjicadcamiaaGreat.Pt
