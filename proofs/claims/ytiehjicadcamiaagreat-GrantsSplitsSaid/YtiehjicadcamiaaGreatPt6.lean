/- The evaluator comes to each of the plain functions. No condition. -/
import Derived.Test.YtiehjicadcamiaaGreatPt5
set_option linter.all false
open Bool renaming true->zt, false->zf
namespace Go.Proofs.YtiehjicadcamiaaGreat.Pt
open Go Sv Pl
set_option maxRecDepth 1000000
def us:Sg:=⟨[(zt,YM),zI],[(zt,sG),zI],VY⟩
theorem e87:tQ nH [] 87 us:=fun _=>by kernel_rfl
def nJ:tL:=(87,us)::nH
theorem nK:tO nJ:=Sj nI e87
def uu:Sg:=⟨[(zt,sG)],[(zf,.bool)],Uc⟩
theorem e89:tQ nJ [] 89 uu:=fun _=>by kernel_rfl
def nL:tL:=(89,uu)::nJ
theorem nM:tO nL:=Sj nK e89
def qR:Sg:=⟨[zI,zI],[zI,zI],Xe⟩
theorem wq:tQ nL [] 137 qR:=fun _=>by kernel_rfl
def nN:tL:=(137,qR)::nL
theorem nO:tO nN:=Sj nM wq
def py:Sg:=⟨[(zt,sG)],[(zf,.bool)],Ul⟩
theorem wS:tQ nN [] 118 py:=fun _=>by kernel_rfl
def nQ:tL:=(118,py)::nN
theorem nR:tO nQ:=Sj nO wS
def qU:Sg:=⟨[(zt,T4),zI],[zI],W4⟩
theorem wu:tQ nQ [] 139 qU:=fun _=>by kernel_rfl
def nS:tL:=(139,qU)::nQ
theorem nT:tO nS:=Sj nR wu
def qT:Sg:=⟨[(zt,T4),zI],[(zf,.bool),zI],Xd⟩
theorem wt:tQ nS [] 138 qT:=fun _=>by kernel_rfl
def nU:tL:=(138,qT)::nS
theorem nV:tO nU:=Sj nT wt
def pz:Sg:=⟨[(zt,sG)],[(zf,.bool)],Vq⟩
theorem wT:tQ nU [] 119 pz:=fun _=>by kernel_rfl
def nX:tL:=(119,pz)::nU
theorem nY:tO nX:=Sj nV wT
def v7:tA:=[(88,2,11,.loop { keep:=[0,1,7,11,5,9,8,12,6,10],kb:=[0],pl:=[.slot 13 zf zJ,.slot 2 zf .bool],ex:=[(.ret,[]),(.exit 0,[])],pay:=.unit })]
def ut:Sg:=⟨[(zt,sG)],[(zf,.bool)],Ux⟩
theorem e88:tQ nX v7 88 ut:=fun _=>by kernel_rfl
def nZ:tL:=(88,ut)::nX
theorem na:tO nZ:=Sj nY e88
def vX:tA:=[(53,8,21,.loop { keep:=[0,1,15,23,11,19,17,13,21,4,16,24,12,20,10,14,22],kb:=[0],pl:=[.slot 3 zf zJ,.slot 5 zf .bool,.slot 25 zf zJ,.slot 2 zf zJ],ex:=[(.ret,[]),(.exit 1,[])],pay:=.unit })]
def uL:Sg:=⟨[(zt,YM)],[zI,zI],Uw⟩
theorem zY:tQ nZ vX 53 uL:=fun _=>by kernel_rfl
def ng:tL:=(53,uL)::nZ
theorem nh:tO ng:=Sj na zY
theorem xe:MG Tryz.prog (λf=> !pu f) 1000 100 120=zt:=by kernel_rfl
theorem wU(a:Ty.den ZI)(l:List (Ty.den ZI)):OZ Tryz.prog (Ae pu ng) (RU []) 3000 60 120 [(zf,(.sl zt ZI))] [(zf,(.sl zt ZI))] (a::l)=Uj (a::l):=by kernel_rfl
def ni:tL:=(120,⟨[(zf,(.sl zt ZI))],[(zf,(.sl zt ZI))],Uj⟩)::ng
theorem nj:tO ni:=Sk (gg:=true) (c:=ZI) nh xe rfl wU
theorem xi:O2 Tryz.prog (λf=> !pu f) 1000 100 120=zt:=by kernel_rfl
theorem xz(a:Ty.den ZI)(l:List (Ty.den ZI)):QA Tryz.prog (Ae pu ni) (RU []) 3000 60 120 [(zf,(.sl zt ZI))] zt ZI (a::l)=Uj (a::l):=by kernel_rfl
def nk:tL:=(120+Ct,⟨[(zf,(.sl zt ZI))],[(zf,(.sl zt ZI))],Uj⟩)::ni
theorem nl:tO nk:=Sl (gg:=true) (c:=ZI) nj xi rfl (λa l y h=>SN h) xz
def uv:Sg:=⟨[(zt,YM),zI,zI],[(zt,YM),zI,zI],YO⟩
theorem e90:tQ nk [] 90 uv:=fun _=>by kernel_rfl
def np:tL:=(90,uv)::nk
theorem nq:tO np:=Sj nl e90
def se:tA:=[(141,5,30,.loop { keep:=[0,1,3,7,15,31,23,11,19,27,9,17,25,13,21,29,2,16,32,24,12,20,28,6,10,18,26,14,22,30],kb:=[0,1,12,10],pl:=[.slot 8 zf zJ],ex:=[(.exit 0,[])],pay:=.unit })]
def qV:Sg:=⟨[(zt,T4),zI,(zf,(.sl zt T3))],[(zt,T4)],WI⟩
theorem wv:tQ np se 141 qV:=fun _=>by kernel_rfl
def nr:tL:=(141,qV)::np
theorem nu:tO nr:=Sj nq wv
def p8:Sg:=⟨[(zt,T4),zI],[(zt,T4),(zf,(.sl zt T3)),zI],V1⟩
theorem wV:tQ nr [] 121 p8:=fun _=>by kernel_rfl
def nv:tL:=(121,p8)::nr
theorem ny:tO nv:=Sj nu wV
end Go.Proofs.YtiehjicadcamiaaGreat.Pt
