/- The evaluator comes to each of the plain functions. No condition. -/
import Derived.Test.YtfipnhjfbebeiaaGreatDoorPt3
set_option linter.all false
namespace Go.Proofs.YtfipnhjfbebeiaaGreatDoor.Pt
open Go Sv Pl
set_option maxRecDepth 1000000
def ql:Sg:=⟨[(true,T3)],[zI,zI],Xw⟩
theorem xJ:tE mg [] 125 ql:=fun _=>by kernel_rfl
def mi:tL:=(125,ql)::mg
theorem mj:tO mi:=SY mh xJ
def vt:Sg:=⟨[(true,T3),zI],[zI],Vj⟩
theorem e83:tE mi [] 83 vt:=fun _=>by kernel_rfl
def ml:tL:=(83,vt)::mi
theorem mo:tO ml:=SY mj e83
def wZ:tA:=[(47,8,26,.loop { keep:=[0,1,15,23,11,19,27,5,17,25,13,21,29,16,24,12,20,28,18,26,14,22],kb:=[0],pl:=[.slot 3 false zJ,.slot 2 false zJ,.slot 4 false zJ,.slot 30 false zJ,.map 18 zJ false .bool],ex:=[(.exit 1,[])],pay:=.unit }),(47,14,44,.loop { keep:=[0,1,7,15,31,23,39,11,19,35,27,5,17,33,25,41,13,21,37,29,2,16,32,24,40,12,20,36,28,6,18,34,26,42,14,22,38,30],kb:=[0,30],pl:=[.slot 3 false zJ,.slot 43 false zJ,.slot 4 false zJ,.map 18 zJ false .bool],ex:=[(.exit 1,[]),(.exit 3,[])],pay:=.unit })]
def vK:Sg:=⟨[(true,T4)],[zI,zI,zI],VU⟩
theorem e47:tE ml wZ 47 vK:=fun _=>by kernel_rfl
def mq:tL:=(47,vK)::ml
theorem mr:tO mq:=SY mo e47
def wa:tA:=[(48,2,6,.loop { keep:=[0,1,7,9,8],kb:=[0],pl:=[.slot 2 false zJ,.slot 10 false zJ],ex:=[(.exit 0,[])],pay:=.unit }),(48,5,15,.loop { keep:=[0,1,7,15,11,9,13,4,8,16,12,10,14],kb:=[0,9],pl:=[.slot 17 false zJ,.slot 2 false zJ],ex:=[(.exit 2,[])],pay:=.unit })]
def vN:Sg:=⟨[(true,T4)],[zI],Wh⟩
theorem e48:tE mq wa 48 vN:=fun _=>by kernel_rfl
def mu:tL:=(48,vN)::mq
theorem mv:tO mu:=SY mr e48
def vO:Sg:=⟨[(true,T4),zI],[(false,.bool)],Vi⟩
theorem e51:tE mu [] 51 vO:=fun _=>by kernel_rfl
def mw:tL:=(51,vO)::mu
theorem my:tO mw:=SY mv e51
def t7:tA:=[(147,6,13,.loop { keep:=[0,15,11,9,17,13,8,16,12,10,14],kb:=[],pl:=[.slot 3 false zJ,.slot 2 false zJ,.slot 18 false zJ],ex:=[(.ret,[]),(.exit 1,[])],pay:=.unit })]
def rC:Sg:=⟨[(false,(.sl false (.sl true T2)))],[zI,zI],V5⟩
theorem xc:tE mw t7 147 rC:=fun _=>by kernel_rfl
def mz:tL:=(147,rC)::mw
theorem m6:tO mz:=SY my xc
def qm:Sg:=⟨[(false,.bool)],[(true,pA)],VW⟩
theorem xK:tE mz [] 127 qm:=fun _=>by kernel_rfl
def m7:tL:=(127,qm)::mz
theorem m8:tO m7:=SY m6 xK
theorem yq:MD Tryz.prog (λf => !pu f) 1000 100 148=true:=by kernel_rfl
theorem xd (a:Ty.den (.sl true T2)) (l:List (Ty.den (.sl true T2))):OU Tryz.prog (Ae pu m7) (RM []) 3000 60 148 [(false,(.sl false (.sl true T2)))] [(false,(.sl false (.sl true T2)))] (a::l)=Tw (a::l):=by kernel_rfl
def m9:tL:=(148,⟨[(false,(.sl false (.sl true T2)))],[(false,(.sl false (.sl true T2)))],Tw⟩)::m7
theorem nA:tO m9:=SZ (gg:=false) (c:=(.sl true T2)) m8 yq rfl xd
theorem yz:Ox Tryz.prog (λf => !pu f) 1000 100 148=true:=by kernel_rfl
theorem zB (a:Ty.den (.sl true T2)) (l:List (Ty.den (.sl true T2))):P2 Tryz.prog (Ae pu m9) (RM []) 3000 60 148 [(false,(.sl false (.sl true T2)))] false (.sl true T2) (a::l)=Tw (a::l):=by kernel_rfl
def nB:tL:=(148+Cs,⟨[(false,(.sl false (.sl true T2)))],[(false,(.sl false (.sl true T2)))],Tw⟩)::m9
theorem nC:tO nB:=Sa (gg:=false) (c:=(.sl true T2)) nA yz rfl (λa l y h=>R8 h) zB
def rU:Sg:=⟨[(false,(.sl true T2)),zI],[(true,T5)],UV⟩
theorem yF:tE nB [] 173 rU:=fun _=>by kernel_rfl
def nD:tL:=(173,rU)::nB
theorem nF:tO nD:=SY nC yF
def sN:Sg:=⟨[(true,T5)],[(false,.bool)],Vz⟩
theorem yi:tE nD [] 204 sN:=fun _=>by kernel_rfl
def nG:tL:=(204,sN)::nD
theorem nH:tO nG:=SY nF yi
def uK:tA:=[(206,2,22,.loop { keep:=[0,1,7,6],kb:=[],pl:=[.slot 4 false zJ,.slot 8 false zJ],ex:=[(.ret,[]),(.exit 0,[])],pay:=.unit })]
def sC:Sg:=⟨[(false,(.sl true T5))],[zI],V3⟩
theorem yW:tE nG uK 191 sC:=fun _=>by kernel_rfl
def nI:tL:=(191,sC)::nG
theorem nJ:tO nI:=SY nH yW
theorem yy:MD Tryz.prog (λf => !pu f) 1000 100 194=true:=by kernel_rfl
theorem yZ (a:Ty.den T5) (l:List (Ty.den T5)):OU Tryz.prog (Ae pu nI) (RM []) 3000 60 194 [(false,(.sl true T5))] [(false,(.sl true T5))] (a::l)=Tx (a::l):=by kernel_rfl
def nK:tL:=(194,⟨[(false,(.sl true T5))],[(false,(.sl true T5))],Tx⟩)::nI
theorem nL:tO nK:=SZ (gg:=true) (c:=T5) nJ yy rfl yZ
theorem y9:Ox Tryz.prog (λf => !pu f) 1000 100 194=true:=by kernel_rfl
theorem zE (a:Ty.den T5) (l:List (Ty.den T5)):P2 Tryz.prog (Ae pu nK) (RM []) 3000 60 194 [(false,(.sl true T5))] true T5 (a::l)=Tx (a::l):=by kernel_rfl
def nM:tL:=(194+Cs,⟨[(false,(.sl true T5))],[(false,(.sl true T5))],Tx⟩)::nK
theorem nN:tO nM:=Sa (gg:=true) (c:=T5) nL y9 rfl (λa l y h=>R8 h) zE
end Go.Proofs.YtfipnhjfbebeiaaGreatDoor.Pt
