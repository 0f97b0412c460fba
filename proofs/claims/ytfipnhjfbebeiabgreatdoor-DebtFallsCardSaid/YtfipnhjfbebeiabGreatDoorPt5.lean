/- The evaluator comes to each of the plain functions. No condition. -/
import Derived.Test.YtfipnhjfbebeiabGreatDoorPt4
set_option linter.all false
namespace Go.Proofs.YtfipnhjfbebeiabGreatDoor.Pt
open Go Sv Pl
set_option maxRecDepth 1000000
def uc:tA:=[(213,6,26,.loop { keep:=[0,3,15,23,11,19,17,13,2,4,24,12,6,10,14,22],kb:=[0,7],pl:=[.slot 7 false zJ,.srow 5 false zJ true,.box 20 [.ow true T5 false,.ow false zJ true,.lf zJ]],ex:=[(.exit 0,[])],pay:=.unit })]
def sS:Sg:=⟨[(false,(.sl true T5))],[(true,T7)],W6⟩
theorem yq:tE nT uc 213 sS:=fun _=>by kernel_rfl
def nV:tL:=(213,sS)::nT
theorem nX:tO nV:=SY nU yq
def sH:Sg:=⟨[(false,(.sl true T5))],[(true,T7),zI],VP⟩
theorem yZ:tE nV [] 202 sH:=fun _=>by kernel_rfl
def nY:tL:=(202,sH)::nV
theorem nZ:tO nY:=SY nX yZ
def uD:tA:=[(185,3,47,.loop { keep:=[0,1,11,13,4,10,14],kb:=[0,39,27,13,30],pl:=[.slot 15 false zJ,.srow 5 true T5 true],ex:=[(.exit 0,[])],pay:=.unit })]
def qx:Sg:=⟨[(false,(.sl false (.sl true T2))),(false,.bool)],[(true,eB),zI,zI],XF⟩
theorem xV:tE nY uD 126 qx:=fun _=>by kernel_rfl
def na:tL:=(126,qx)::nY
theorem ng:tO na:=SY nZ xV
def wC:Sg:=⟨[(true,T4),zI,(false,.bool)],[(true,Z7)],VM⟩
theorem e84:tE na [] 84 wC:=fun _=>by kernel_rfl
def nh:tL:=(84,wC)::na
theorem ni:tO nh:=SY ng e84
def uW:tA:=[(185,3,8,.loop { keep:=[0,1,11,13,4,10,14],kb:=[0],pl:=[.slot 15 false zJ,.srow 5 true T5 true],ex:=[(.exit 0,[])],pay:=.unit })]
theorem yP (x:AP [(false,(.sl false (.sl true T2))),(false,(.sl false zJ))]):OU Tryz.prog (Ae pu nh) (RM uW) 3000 60 185 [(false,(.sl false (.sl true T2))),(false,(.sl false zJ))] [(true,T7)] x=W7 x:=by kernel_rfl
def nj:tL:=(1048761,⟨[(false,(.sl false (.sl true T2))),(false,(.sl false zJ))],[(true,T7)],W7⟩)::nh
theorem nk:tO nj:=SY ni yP
def uI:tA:=[(134,4,9,.loop { keep:=[0,1,7,11,9,8,12,6,10],kb:=[],pl:=[.slot 13 false zJ,.slot 4 false .bool],ex:=[(.ret,[]),(.exit 0,[])],pay:=.unit })]
def rC:Sg:=⟨[(false,(.sl true T5)),(false,(.sl true T5))],[(false,.bool)],UH⟩
theorem xd:tE nj uI 134 rC:=fun _=>by kernel_rfl
def nl:tL:=(134,rC)::nj
theorem np:tO nl:=SY nk xd
def uH:tA:=[(133,4,9,.loop { keep:=[0,1,7,11,9,8,12,6,10],kb:=[],pl:=[.slot 13 false zJ,.slot 4 false .bool],ex:=[(.ret,[]),(.exit 0,[])],pay:=.unit })]
def rB:Sg:=⟨[(false,(.sl false zJ)),(false,(.sl false zJ))],[(false,.bool)],Tz⟩
theorem xc:tE nl uH 133 rB:=fun _=>by kernel_rfl
def nq:tL:=(133,rB)::nl
theorem nr:tO nq:=SY np xc
def ru:Sg:=⟨[(true,T7),(true,T7)],[(false,.bool)],Wa⟩
theorem yQ:tE nq [] 186 ru:=fun _=>by kernel_rfl
def nu:tL:=(186,ru)::nq
theorem nv:tO nu:=SY nr yQ
def ud:tA:=[(214,8,25,.loop { keep:=[0,1,15,23,11,19,5,9,17,25,21,4,8,16,24,12,20,10,18,26,14,22],kb:=[0,19],pl:=[.slot 3 false zJ,.slot 27 false zJ,.slot 2 false zJ],ex:=[(.ret,[]),(.exit 0,[])],pay:=.unit })]
def sT:Sg:=⟨[(true,T7)],[zI,zI],XT⟩
theorem yu:tE nu ud 214 sT:=fun _=>by kernel_rfl
def ny:tL:=(214,sT)::nu
theorem nz:tO ny:=SY nv yu
def sI:Sg:=⟨[(true,T7)],[zI],W5⟩
theorem yc:tE ny [] 203 sI:=fun _=>by kernel_rfl
def oA:tL:=(203,sI)::ny
theorem oB:tO oA:=SY nz yc
def rx:Sg:=⟨[(true,T7)],[zI,(false,.str),zI],VW⟩
theorem yR:tE oA [] 187 rx:=fun _=>by kernel_rfl
def oC:tL:=(187,rx)::oA
theorem oD:tO oC:=SY oB yR
def sJ:Sg:=⟨[(false,.str)],[(false,.bool)],Vx⟩
theorem yd:tE oC [] 204 sJ:=fun _=>by kernel_rfl
def oE:tL:=(204,sJ)::oC
theorem oF:tO oE:=SY oD yd
def sB:Sg:=⟨[(false,.str),(false,.str)],[zI],Vc⟩
theorem yT:tE oE [] 189 sB:=fun _=>by kernel_rfl
def oG:tL:=(189,sB)::oE
theorem oH:tO oG:=SY oF yT
def sK:Sg:=⟨[zI],[(false,.bool)],Wf⟩
theorem ye:tE oG [] 205 sK:=fun _=>by kernel_rfl
def oI:tL:=(205,sK)::oG
theorem oJ:tO oI:=SY oH ye
end Go.Proofs.YtfipnhjfbebeiabGreatDoor.Pt
