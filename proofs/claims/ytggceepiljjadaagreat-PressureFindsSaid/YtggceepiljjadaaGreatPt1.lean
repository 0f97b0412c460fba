/- The evaluator comes to each of the plain functions. No condition. -/
import Derived.Test.YtggceepiljjadaaGreatPt0
set_option linter.all false
namespace Go.Proofs.YtggceepiljjadaaGreat.Pt
open Go Sv Pl
set_option maxRecDepth 1000000
def tq:tA:=[(126,4,8,.loop { keep:=[0,7,11,9,8,10],kb:=[],pl:=[.slot 3 false zJ,.slot 2 false zJ,.slot 12 false zJ],ex:=[(.ret,[]),(.exit 0,[])],pay:=.unit })]
def rG:Sg:=⟨[(false,(.sl true T2))],[zI,zI],UU⟩
theorem xQ:tE kz tq 126 rG:=fun _=>by kernel_rfl
def lB:tL:=(126,rG)::kz
theorem lD:tO lB:=SR lA xQ
def v7:Sg:=⟨[(true,T3)],[zI,zI],XH⟩
theorem e93:tE lB [] 93 v7:=fun _=>by kernel_rfl
def lE:tL:=(93,v7)::lB
theorem lF:tO lE:=SR lD e93
def qn:Sg:=⟨[(true,T3),zI],[zI],Vf⟩
theorem w9:tE lE [] 107 qn:=fun _=>by kernel_rfl
def lG:tL:=(107,qn)::lE
theorem lH:tO lG:=SR lF w9
def wu:tA:=[(87,8,26,.loop { keep:=[0,1,15,23,11,19,27,5,17,25,13,21,29,16,24,12,20,28,18,26,14,22],kb:=[0],pl:=[.slot 3 false zJ,.slot 2 false zJ,.slot 4 false zJ,.slot 30 false zJ,.map 18 zJ false .bool],ex:=[(.exit 1,[])],pay:=.unit }),(87,14,44,.loop { keep:=[0,1,7,15,31,23,39,11,19,35,27,5,17,33,25,41,13,21,37,29,2,16,32,24,40,12,20,36,28,6,18,34,26,42,14,22,38,30],kb:=[0,30],pl:=[.slot 3 false zJ,.slot 43 false zJ,.slot 4 false zJ,.map 18 zJ false .bool],ex:=[(.exit 1,[]),(.exit 3,[])],pay:=.unit })]
def vq:Sg:=⟨[(true,T4)],[zI,zI,zI],Vs⟩
theorem e87:tE lG wu 87 vq:=fun _=>by kernel_rfl
def lI:tL:=(87,vq)::lG
theorem lJ:tO lI:=SR lH e87
def wv:tA:=[(88,2,6,.loop { keep:=[0,1,7,9,8],kb:=[0],pl:=[.slot 2 false zJ,.slot 10 false zJ],ex:=[(.exit 0,[])],pay:=.unit }),(88,5,15,.loop { keep:=[0,1,7,15,11,9,13,4,8,16,12,10,14],kb:=[0,9],pl:=[.slot 17 false zJ,.slot 2 false zJ],ex:=[(.exit 2,[])],pay:=.unit })]
def vt:Sg:=⟨[(true,T4)],[zI],Wq⟩
theorem e88:tE lI wv 88 vt:=fun _=>by kernel_rfl
def lK:tL:=(88,vt)::lI
theorem lL:tO lK:=SR lJ e88
def vu:Sg:=⟨[(true,T4),zI],[(false,.bool)],Ve⟩
theorem e89:tE lK [] 89 vu:=fun _=>by kernel_rfl
def lM:tL:=(89,vu)::lK
theorem lN:tO lM:=SR lL e89
def t6:tA:=[(143,6,13,.loop { keep:=[0,15,11,9,17,13,8,16,12,10,14],kb:=[],pl:=[.slot 3 false zJ,.slot 2 false zJ,.slot 18 false zJ],ex:=[(.ret,[]),(.exit 1,[])],pay:=.unit })]
def rT:Sg:=⟨[(false,(.sl false (.sl true T2)))],[zI,zI],WH⟩
theorem xf:tE lM t6 143 rT:=fun _=>by kernel_rfl
def lO:tL:=(143,rT)::lM
theorem lQ:tO lO:=SR lN xf
def rK:Sg:=⟨[(false,.bool)],[(true,pQ)],VS⟩
theorem xU:tE lO [] 133 rK:=fun _=>by kernel_rfl
def lR:tL:=(133,rK)::lO
theorem lS:tO lR:=SR lQ xU
theorem yU:MB Tryz.prog (λf=> !pu f) 1000 100 161=true:=by kernel_rfl
theorem yB(a:Ty.den (.sl true T2))(l:List (Ty.den (.sl true T2))):OQ Tryz.prog (Ah pu lR) (RK []) 3000 60 161 [(false,(.sl false (.sl true T2)))] [(false,(.sl false (.sl true T2)))] (a::l)=Tp (a::l):=by kernel_rfl
def lT:tL:=(161,⟨[(false,(.sl false (.sl true T2)))],[(false,(.sl false (.sl true T2)))],Tp⟩)::lR
theorem lU:tO lT:=SS (gg:=false) (c:=(.sl true T2)) lS yU rfl yB
theorem yX:Ou Tryz.prog (λf=> !pu f) 1000 100 161=true:=by kernel_rfl
theorem yc(a:Ty.den (.sl true T2))(l:List (Ty.den (.sl true T2))):Py Tryz.prog (Ah pu lT) (RK []) 3000 60 161 [(false,(.sl false (.sl true T2)))] false (.sl true T2) (a::l)=Tp (a::l):=by kernel_rfl
def lV:tL:=(161+Di,⟨[(false,(.sl false (.sl true T2)))],[(false,(.sl false (.sl true T2)))],Tp⟩)::lT
theorem lW:tO lV:=SU (gg:=false) (c:=(.sl true T2)) lU yX rfl (λa l y h=>R6 h) yc
def rq:Sg:=⟨[(false,(.sl true T2)),zI],[(true,T5)],UV⟩
theorem yC:tE lV [] 162 rq:=fun _=>by kernel_rfl
def lX:tL:=(162,rq)::lV
theorem lY:tO lX:=SR lW yC
def sJ:Sg:=⟨[(true,T5)],[(false,.bool)],WA⟩
theorem yR:tE lX [] 180 sJ:=fun _=>by kernel_rfl
def lZ:tL:=(180,sJ)::lX
theorem ld:tO lZ:=SR lY yR
def uF:tA:=[(182,2,22,.loop { keep:=[0,1,7,6],kb:=[],pl:=[.slot 4 false zJ,.slot 8 false zJ],ex:=[(.ret,[]),(.exit 0,[])],pay:=.unit })]
def sF:Sg:=⟨[(false,(.sl true T5))],[zI],WF⟩
theorem yM:tE lZ uF 173 sF:=fun _=>by kernel_rfl
def lg:tL:=(173,sF)::lZ
theorem lh:tO lg:=SR ld yM
theorem yW:MB Tryz.prog (λf=> !pu f) 1000 100 176=true:=by kernel_rfl
theorem yP(a:Ty.den T5)(l:List (Ty.den T5)):OQ Tryz.prog (Ah pu lg) (RK []) 3000 60 176 [(false,(.sl true T5))] [(false,(.sl true T5))] (a::l)=Tq (a::l):=by kernel_rfl
def lj:tL:=(176,⟨[(false,(.sl true T5))],[(false,(.sl true T5))],Tq⟩)::lg
theorem lm:tO lj:=SS (gg:=true) (c:=T5) lh yW rfl yP
end Go.Proofs.YtggceepiljjadaaGreat.Pt
