/- The evaluator comes to each of the plain functions. No condition. -/
import Derived.Test.YtfipnhjfbebeiaaGreatDoorPt4
set_option linter.all false
namespace Go.Proofs.YtfipnhjfbebeiaaGreatDoor.Pt
open Go Sv Pl
set_option maxRecDepth 1000000
def uL:tA:=[(192,6,26,.loop { keep:=[0,3,15,23,11,19,17,13,2,4,24,12,6,10,14,22],kb:=[0,7],pl:=[.slot 7 false zJ,.srow 5 false zJ true,.box 20 [.ow true T5 false,.ow false zJ true,.lf zJ]],ex:=[(.exit 0,[])],pay:=.unit })]
def sE:Sg:=⟨[(false,(.sl true T5))],[(true,T7)],W5⟩
theorem yX:tE nM uL 192 sE:=fun _=>by kernel_rfl
def nO:tL:=(192,sE)::nM
theorem nQ:tO nO:=SY nN yX
def rV:Sg:=⟨[(false,(.sl true T5))],[(true,T7),zI],VP⟩
theorem yG:tE nO [] 174 rV:=fun _=>by kernel_rfl
def nR:tL:=(174,rV)::nO
theorem nS:tO nR:=SY nQ yG
def ww:tA:=[(149,3,47,.loop { keep:=[0,1,11,13,4,10,14],kb:=[0,39,27,13,30],pl:=[.slot 15 false zJ,.srow 5 true T5 true],ex:=[(.exit 0,[])],pay:=.unit })]
def vu:Sg:=⟨[(false,(.sl false (.sl true T2))),(false,.bool)],[(true,dy),zI,zI],XF⟩
theorem e86:tE nR ww 86 vu:=fun _=>by kernel_rfl
def nT:tL:=(86,vu)::nR
theorem nU:tO nT:=SY nS e86
def vQ:Sg:=⟨[(true,T4),zI,(false,.bool)],[(true,Z5)],VK⟩
theorem e52:tE nT [] 52 vQ:=fun _=>by kernel_rfl
def nV:tL:=(52,vQ)::nT
theorem nX:tO nV:=SY nU e52
def t8:tA:=[(149,3,8,.loop { keep:=[0,1,11,13,4,10,14],kb:=[0],pl:=[.slot 15 false zJ,.srow 5 true T5 true],ex:=[(.exit 0,[])],pay:=.unit })]
theorem xe (x:AP [(false,(.sl false (.sl true T2))),(false,(.sl false zJ))]):OU Tryz.prog (Ae pu nV) (RM t8) 3000 60 149 [(false,(.sl false (.sl true T2))),(false,(.sl false zJ))] [(true,T7)] x=W6 x:=by kernel_rfl
def nY:tL:=(1048725,⟨[(false,(.sl false (.sl true T2))),(false,(.sl false zJ))],[(true,T7)],W6⟩)::nV
theorem nZ:tO nY:=SY nX xe
def w6:tA:=[(94,4,9,.loop { keep:=[0,1,7,11,9,8,12,6,10],kb:=[],pl:=[.slot 13 false zJ,.slot 4 false .bool],ex:=[(.ret,[]),(.exit 0,[])],pay:=.unit })]
def v8:Sg:=⟨[(false,(.sl true T5)),(false,(.sl true T5))],[(false,.bool)],UH⟩
theorem e94:tE nY w6 94 v8:=fun _=>by kernel_rfl
def na:tL:=(94,v8)::nY
theorem ng:tO na:=SY nZ e94
def wz:tA:=[(93,4,9,.loop { keep:=[0,1,7,11,9,8,12,6,10],kb:=[],pl:=[.slot 13 false zJ,.slot 4 false .bool],ex:=[(.ret,[]),(.exit 0,[])],pay:=.unit })]
def v7:Sg:=⟨[(false,(.sl false zJ)),(false,(.sl false zJ))],[(false,.bool)],Tz⟩
theorem e93:tE na wz 93 v7:=fun _=>by kernel_rfl
def nh:tL:=(93,v7)::na
theorem ni:tO nh:=SY ng e93
def rD:Sg:=⟨[(true,T7),(true,T7)],[(false,.bool)],Wa⟩
theorem xf:tE nh [] 150 rD:=fun _=>by kernel_rfl
def nj:tL:=(150,rD)::nh
theorem nk:tO nj:=SY ni xf
def uM:tA:=[(193,8,25,.loop { keep:=[0,1,15,23,11,19,5,9,17,25,21,4,8,16,24,12,20,10,18,26,14,22],kb:=[0,19],pl:=[.slot 3 false zJ,.slot 27 false zJ,.slot 2 false zJ],ex:=[(.ret,[]),(.exit 0,[])],pay:=.unit })]
def sF:Sg:=⟨[(true,T7)],[zI,zI],XT⟩
theorem yY:tE nj uM 193 sF:=fun _=>by kernel_rfl
def nl:tL:=(193,sF)::nj
theorem np:tO nl:=SY nk yY
def rZ:Sg:=⟨[(true,T7)],[zI],W4⟩
theorem yH:tE nl [] 175 rZ:=fun _=>by kernel_rfl
def nq:tL:=(175,rZ)::nl
theorem nr:tO nq:=SY np yH
def rE:Sg:=⟨[(true,T7)],[zI,(false,.str),zI],VV⟩
theorem xg:tE nq [] 151 rE:=fun _=>by kernel_rfl
def nu:tL:=(151,rE)::nq
theorem nv:tO nu:=SY nr xg
def ra:Sg:=⟨[(false,.str)],[(false,.bool)],Vx⟩
theorem yI:tE nu [] 176 ra:=fun _=>by kernel_rfl
def ny:tL:=(176,ra)::nu
theorem nz:tO ny:=SY nv yI
def rG:Sg:=⟨[(false,.str),(false,.str)],[zI],Vb⟩
theorem xi:tE ny [] 153 rG:=fun _=>by kernel_rfl
def oA:tL:=(153,rG)::ny
theorem oB:tO oA:=SY nz xi
def rf:Sg:=⟨[zI],[(false,.bool)],Wg⟩
theorem yJ:tE oA [] 177 rf:=fun _=>by kernel_rfl
def oC:tL:=(177,rf)::oA
theorem oD:tO oC:=SY oB yJ
end Go.Proofs.YtfipnhjfbebeiaaGreatDoor.Pt
