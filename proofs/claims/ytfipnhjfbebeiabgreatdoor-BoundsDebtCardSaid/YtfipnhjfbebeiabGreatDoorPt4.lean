/- The evaluator comes to each of the plain functions. No condition. -/
import Derived.Test.YtfipnhjfbebeiabGreatDoorPt3
set_option linter.all false
namespace Go.Proofs.YtfipnhjfbebeiabGreatDoor.Pt
open Go Sv Pl
set_option maxRecDepth 1000000
def t6:tA:=[(185,3,47,.loop { keep:=[0,1,11,13,4,10,14],kb:=[0,39,27,13,30],pl:=[.slot 15 false zJ,.srow 5 true T5 true],ex:=[(.exit 0,[])],pay:=.unit })]
def rB:Sg:=⟨[(false,(.sl false (.sl true T2))),(false,.bool)],[(true,dk),zI,zI],XE⟩
theorem xe:tE mz t6 126 rB:=fun _=>by kernel_rfl
def m7:tL:=(126,rB)::mz
theorem m8:tO m7:=SY m6 xe
def wE:Sg:=⟨[(true,T4),zI,(false,.bool)],[(true,aL)],VN⟩
theorem e84:tE m7 [] 84 wE:=fun _=>by kernel_rfl
def m9:tL:=(84,wE)::m7
theorem nA:tO m9:=SY m8 e84
def uS:tA:=[(185,3,8,.loop { keep:=[0,1,11,13,4,10,14],kb:=[0],pl:=[.slot 15 false zJ,.srow 5 true T5 true],ex:=[(.exit 0,[])],pay:=.unit })]
theorem yV (x:AP [(false,(.sl false (.sl true T2))),(false,(.sl false zJ))]):OU Tryz.prog (Ae pu m9) (RM uS) 3000 60 185 [(false,(.sl false (.sl true T2))),(false,(.sl false zJ))] [(true,T7)] x=W6 x:=by kernel_rfl
def nB:tL:=(1048761,⟨[(false,(.sl false (.sl true T2))),(false,(.sl false zJ))],[(true,T7)],W6⟩)::m9
theorem nC:tO nB:=SY nA yV
def uC:tA:=[(134,4,9,.loop { keep:=[0,1,7,11,9,8,12,6,10],kb:=[],pl:=[.slot 13 false zJ,.slot 4 false .bool],ex:=[(.ret,[]),(.exit 0,[])],pay:=.unit })]
def rG:Sg:=⟨[(false,(.sl true T5)),(false,(.sl true T5))],[(false,.bool)],UF⟩
theorem xj:tE nB uC 134 rG:=fun _=>by kernel_rfl
def nD:tL:=(134,rG)::nB
theorem nF:tO nD:=SY nC xj
def t9:tA:=[(133,4,9,.loop { keep:=[0,1,7,11,9,8,12,6,10],kb:=[],pl:=[.slot 13 false zJ,.slot 4 false .bool],ex:=[(.ret,[]),(.exit 0,[])],pay:=.unit })]
def rF:Sg:=⟨[(false,(.sl false zJ)),(false,(.sl false zJ))],[(false,.bool)],Tz⟩
theorem xi:tE nD t9 133 rF:=fun _=>by kernel_rfl
def nG:tL:=(133,rF)::nD
theorem nH:tO nG:=SY nF xi
def sC:Sg:=⟨[(true,T7),(true,T7)],[(false,.bool)],Wi⟩
theorem yW:tE nG [] 186 sC:=fun _=>by kernel_rfl
def nI:tL:=(186,sC)::nG
theorem nJ:tO nI:=SY nH yW
def uY:tA:=[(214,8,25,.loop { keep:=[0,1,15,23,11,19,5,9,17,25,21,4,8,16,24,12,20,10,18,26,14,22],kb:=[0,19],pl:=[.slot 3 false zJ,.slot 27 false zJ,.slot 2 false zJ],ex:=[(.ret,[]),(.exit 0,[])],pay:=.unit })]
def sX:Sg:=⟨[(true,T7)],[zI,zI],XU⟩
theorem y9:tE nI uY 214 sX:=fun _=>by kernel_rfl
def nK:tL:=(214,sX)::nI
theorem nL:tO nK:=SY nJ y9
def sN:Sg:=⟨[(true,T7)],[zI],W4⟩
theorem yi:tE nK [] 203 sN:=fun _=>by kernel_rfl
def nM:tL:=(203,sN)::nK
theorem nN:tO nM:=SY nL yi
def sE:Sg:=⟨[(true,T7)],[zI,(false,.str),zI],VX⟩
theorem yX:tE nM [] 187 sE:=fun _=>by kernel_rfl
def nO:tL:=(187,sE)::nM
theorem nQ:tO nO:=SY nN yX
def sO:Sg:=⟨[(false,.str)],[(false,.bool)],V0⟩
theorem yj:tE nO [] 204 sO:=fun _=>by kernel_rfl
def nR:tL:=(204,sO)::nO
theorem nS:tO nR:=SY nQ yj
def sG:Sg:=⟨[(false,.str),(false,.str)],[zI],Vg⟩
theorem yZ:tE nR [] 189 sG:=fun _=>by kernel_rfl
def nT:tL:=(189,sG)::nR
theorem nU:tO nT:=SY nS yZ
def sQ:Sg:=⟨[zI],[(false,.bool)],Wn⟩
theorem yp:tE nT [] 205 sQ:=fun _=>by kernel_rfl
def nV:tL:=(205,sQ)::nT
theorem nX:tO nV:=SY nU yp
def sH:Sg:=⟨[zI,zI],[zI],VE⟩
theorem yc:tE nV [] 190 sH:=fun _=>by kernel_rfl
def nY:tL:=(190,sH)::nV
theorem nZ:tO nY:=SY nX yc
def uT:tA:=[(188,3,5,.loop { keep:=[0,3,7,6],kb:=[],pl:=[.slot 2 false zJ,.slot 8 false zJ],ex:=[(.ret,[]),(.exit 0,[])],pay:=.unit })]
def sF:Sg:=⟨[(false,(.sl false zJ))],[zI],Xj⟩
theorem yY:tE nY uT 188 sF:=fun _=>by kernel_rfl
def na:tL:=(188,sF)::nY
theorem ng:tO na:=SY nZ yY
end Go.Proofs.YtfipnhjfbebeiabGreatDoor.Pt
