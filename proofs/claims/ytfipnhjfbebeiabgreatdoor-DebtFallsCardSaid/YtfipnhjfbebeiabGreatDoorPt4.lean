/- The evaluator comes to each of the plain functions. No condition. -/
import Derived.Test.YtfipnhjfbebeiabGreatDoorPt3
set_option linter.all false
namespace Go.Proofs.YtfipnhjfbebeiabGreatDoor.Pt
open Go Sv Pl
set_option maxRecDepth 1000000
def rM:Sg:=⟨[(true,T3)],[zI,zI],Xv⟩
theorem xy:tE mo [] 160 rM:=fun _=>by kernel_rfl
def mr:tL:=(160,rM)::mo
theorem mv:tO mr:=SY mq xy
def qw:Sg:=⟨[(true,T3),zI],[zI],Vk⟩
theorem xU:tE mr [] 123 qw:=fun _=>by kernel_rfl
def mw:tL:=(123,qw)::mr
theorem my:tO mw:=SY mv xU
def w8:tA:=[(79,8,26,.loop { keep:=[0,1,15,23,11,19,27,5,17,25,13,21,29,16,24,12,20,28,18,26,14,22],kb:=[0],pl:=[.slot 3 false zJ,.slot 2 false zJ,.slot 4 false zJ,.slot 30 false zJ,.map 18 zJ false .bool],ex:=[(.exit 1,[])],pay:=.unit }),(79,14,44,.loop { keep:=[0,1,7,15,31,23,39,11,19,35,27,5,17,33,25,41,13,21,37,29,2,16,32,24,40,12,20,36,28,6,18,34,26,42,14,22,38,30],kb:=[0,30],pl:=[.slot 3 false zJ,.slot 43 false zJ,.slot 4 false zJ,.map 18 zJ false .bool],ex:=[(.exit 1,[]),(.exit 3,[])],pay:=.unit })]
def v9:Sg:=⟨[(true,T4)],[zI,zI,zI],VV⟩
theorem e79:tE mw w8 79 v9:=fun _=>by kernel_rfl
def mz:tL:=(79,v9)::mw
theorem m6:tO mz:=SY my e79
def w9:tA:=[(80,2,6,.loop { keep:=[0,1,7,9,8],kb:=[0],pl:=[.slot 2 false zJ,.slot 10 false zJ],ex:=[(.exit 0,[])],pay:=.unit }),(80,5,15,.loop { keep:=[0,1,7,15,11,9,13,4,8,16,12,10,14],kb:=[0,9],pl:=[.slot 17 false zJ,.slot 2 false zJ],ex:=[(.exit 2,[])],pay:=.unit })]
def wA:Sg:=⟨[(true,T4)],[zI],Wg⟩
theorem e80:tE mz w9 80 wA:=fun _=>by kernel_rfl
def m7:tL:=(80,wA)::mz
theorem m8:tO m7:=SY m6 e80
def wB:Sg:=⟨[(true,T4),zI],[(false,.bool)],Vj⟩
theorem e83:tE m7 [] 83 wB:=fun _=>by kernel_rfl
def m9:tL:=(83,wB)::m7
theorem nA:tO m9:=SY m8 e83
def uV:tA:=[(183,6,13,.loop { keep:=[0,15,11,9,17,13,8,16,12,10,14],kb:=[],pl:=[.slot 3 false zJ,.slot 2 false zJ,.slot 18 false zJ],ex:=[(.ret,[]),(.exit 1,[])],pay:=.unit })]
def rq:Sg:=⟨[(false,(.sl false (.sl true T2)))],[zI,zI],V5⟩
theorem yN:tE m9 uV 183 rq:=fun _=>by kernel_rfl
def nB:tL:=(183,rq)::m9
theorem nC:tO nB:=SY nA yN
def rN:Sg:=⟨[(false,.bool)],[(true,pG)],VX⟩
theorem xz:tE nB [] 162 rN:=fun _=>by kernel_rfl
def nD:tL:=(162,rN)::nB
theorem nF:tO nD:=SY nC xz
theorem y9:MD Tryz.prog (λf => !pu f) 1000 100 184=true:=by kernel_rfl
theorem yO (a:Ty.den (.sl true T2)) (l:List (Ty.den (.sl true T2))):OU Tryz.prog (Ae pu nD) (RM []) 3000 60 184 [(false,(.sl false (.sl true T2)))] [(false,(.sl false (.sl true T2)))] (a::l)=Tw (a::l):=by kernel_rfl
def nG:tL:=(184,⟨[(false,(.sl false (.sl true T2)))],[(false,(.sl false (.sl true T2)))],Tw⟩)::nD
theorem nH:tO nG:=SZ (gg:=false) (c:=(.sl true T2)) nF y9 rfl yO
theorem zC:Ox Tryz.prog (λf => !pu f) 1000 100 184=true:=by kernel_rfl
theorem zH (a:Ty.den (.sl true T2)) (l:List (Ty.den (.sl true T2))):P2 Tryz.prog (Ae pu nG) (RM []) 3000 60 184 [(false,(.sl false (.sl true T2)))] false (.sl true T2) (a::l)=Tw (a::l):=by kernel_rfl
def nI:tL:=(184+Cs,⟨[(false,(.sl false (.sl true T2)))],[(false,(.sl false (.sl true T2)))],Tw⟩)::nG
theorem nJ:tO nI:=Sa (gg:=false) (c:=(.sl true T2)) nH zC rfl (λa l y h=>R8 h) zH
def sG:Sg:=⟨[(false,(.sl true T2)),zI],[(true,T5)],UW⟩
theorem yY:tE nI [] 201 sG:=fun _=>by kernel_rfl
def nK:tL:=(201,sG)::nI
theorem nL:tO nK:=SY nJ yY
def sU:Sg:=⟨[(true,T5)],[(false,.bool)],Vz⟩
theorem yy:tE nK [] 218 sU:=fun _=>by kernel_rfl
def nM:tL:=(218,sU)::nK
theorem nN:tO nM:=SY nL yy
def ub:tA:=[(220,2,22,.loop { keep:=[0,1,7,6],kb:=[],pl:=[.slot 4 false zJ,.slot 8 false zJ],ex:=[(.ret,[]),(.exit 0,[])],pay:=.unit })]
def sR:Sg:=⟨[(false,(.sl true T5))],[zI],V3⟩
theorem yp:tE nM ub 212 sR:=fun _=>by kernel_rfl
def nO:tL:=(212,sR)::nM
theorem nQ:tO nO:=SY nN yp
theorem zB:MD Tryz.prog (λf => !pu f) 1000 100 215=true:=by kernel_rfl
theorem yx (a:Ty.den T5) (l:List (Ty.den T5)):OU Tryz.prog (Ae pu nO) (RM []) 3000 60 215 [(false,(.sl true T5))] [(false,(.sl true T5))] (a::l)=Tx (a::l):=by kernel_rfl
def nR:tL:=(215,⟨[(false,(.sl true T5))],[(false,(.sl true T5))],Tx⟩)::nO
theorem nS:tO nR:=SZ (gg:=true) (c:=T5) nQ zB rfl yx
theorem zE:Ox Tryz.prog (λf => !pu f) 1000 100 215=true:=by kernel_rfl
theorem zL (a:Ty.den T5) (l:List (Ty.den T5)):P2 Tryz.prog (Ae pu nR) (RM []) 3000 60 215 [(false,(.sl true T5))] true T5 (a::l)=Tx (a::l):=by kernel_rfl
def nT:tL:=(215+Cs,⟨[(false,(.sl true T5))],[(false,(.sl true T5))],Tx⟩)::nR
theorem nU:tO nT:=Sa (gg:=true) (c:=T5) nS zE rfl (λa l y h=>R8 h) zL
end Go.Proofs.YtfipnhjfbebeiabGreatDoor.Pt
