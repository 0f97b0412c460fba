/- The evaluator comes to each of the plain functions. No condition. -/
import Derived.Test.YtfipnhjfbebeiabGreatDoorPt1
set_option linter.all false
namespace Go.Proofs.YtfipnhjfbebeiabGreatDoor.Pt
open Go Sv Pl
set_option maxRecDepth 1000000
def rO:Sg:=⟨[(false,(.sl true T5))],[(true,T7),zI],Wk⟩
theorem yB:tE lW [] 158 rO:=fun _=>by kernel_rfl
def lY:tL:=(158,rO)::lW
theorem lZ:tO lY:=SY lX yB
def tv:tA:=[(117,4,12,.loop { keep:=[0,1,15,11,5,9,13,4,12,10,14],kb:=[0,3,8,6],pl:=[.slot 7 false zJ,.srow 6 true T5 false],ex:=[(.exit 0,[])],pay:=.unit })]
def qu:Sg:=⟨[(false,(.sl false (.sl true T2))),(false,(.sl false zJ))],[(true,T9)],Vo⟩
theorem xV:tE lY tv 117 qu:=fun _=>by kernel_rfl
def ld:tL:=(117,qu)::lY
theorem lg:tO ld:=SY lZ xV
def qo:Sg:=⟨[(false,(.sl false (.sl true T2)))],[(true,T9),zI,zI],YJ⟩
theorem xQ:tE ld [] 113 qo:=fun _=>by kernel_rfl
def lh:tL:=(113,qo)::ld
theorem lj:tO lh:=SY lg xQ
def qp:Sg:=⟨[(false,.bool)],[(true,pM)],Vp⟩
theorem xR:tE lh [] 114 qp:=fun _=>by kernel_rfl
def lm:tL:=(114,qp)::lh
theorem lq:tO lm:=SY lj xR
def vp:Sg:=⟨[(false,(.sl false (.sl true T2))),(false,.bool)],[(true,dk),zI,zI],XY⟩
theorem e66:tE lm [] 66 vp:=fun _=>by kernel_rfl
def lr:tL:=(66,vp)::lm
theorem lu:tO lr:=SY lq e66
def vD:Sg:=⟨[(true,T4),zI,(false,.bool)],[(true,aL)],UD⟩
theorem e25:tE lr [] 25 vD:=fun _=>by kernel_rfl
def lw:tL:=(25,vD)::lr
theorem ly:tO lw:=SY lu e25
def wi:tA:=[(31,7,25,.loop { keep:=[0,1,3,7,15,23,11,5,17,25,13,21,2,4,8,16,24,12,20,6,10,26,14,22],kb:=[0,1],pl:=[.slot 9 false zJ,.box 19 [.lf zJ,.lf (.sl true (.sl true T3)),.ow true aL false,.lf zJ]],ex:=[(.exit 0,[])],pay:=.unit })]
def vI:Sg:=⟨[(true,T4)],[(true,Zk),zI],ab⟩
theorem e31:tE lw wi 31 vI:=fun _=>by kernel_rfl
def lz:tL:=(31,vI)::lw
theorem l7:tO lz:=SY ly e31
def vd:Sg:=⟨[],[(true,gm)],Xg⟩
theorem e52:tE lz [] 52 vd:=fun _=>by kernel_rfl
def l8:tL:=(52,vd)::lz
theorem l9:tO l8:=SY l7 e52
def sT:Sg:=⟨[(false,.str)],[zI],W3⟩
theorem yy:tE l8 [] 210 sT:=fun _=>by kernel_rfl
def mB:tL:=(210,sT)::l8
theorem mC:tO mB:=SY l9 yy
def sI:Sg:=⟨[(true,T2)],[zI],U1⟩
theorem yd:tE mB [] 198 sI:=fun _=>by kernel_rfl
def mD:tL:=(198,sI)::mB
theorem mF:tO mD:=SY mC yd
def uM:tA:=[(175,6,23,.loop { keep:=[0,1,7,15,23,11,19,9,17,25,13,21,8,16,24,12,20,10,18,14,22],kb:=[0],pl:=[.slot 3 false zJ,.slot 2 false zJ,.slot 26 false zJ],ex:=[(.ret,[]),(.exit 1,[])],pay:=.unit })]
def rm:Sg:=⟨[(true,T3)],[zI,zI],W2⟩
theorem yM:tE mD uM 175 rm:=fun _=>by kernel_rfl
def mG:tL:=(175,rm)::mD
theorem mH:tO mG:=SY mF yM
def uQ:tA:=[(182,4,8,.loop { keep:=[0,7,11,9,8,10],kb:=[],pl:=[.slot 3 false zJ,.slot 2 false zJ,.slot 12 false zJ],ex:=[(.ret,[]),(.exit 0,[])],pay:=.unit })]
def ry:Sg:=⟨[(false,(.sl true T2))],[zI,zI],UT⟩
theorem yS:tE mG uQ 182 ry:=fun _=>by kernel_rfl
def mJ:tL:=(182,ry)::mG
theorem mL:tO mJ:=SY mH yS
def rR:Sg:=⟨[(true,T3)],[zI,zI],Xs⟩
theorem yD:tE mJ [] 160 rR:=fun _=>by kernel_rfl
def mM:tL:=(160,rR)::mJ
theorem mN:tO mM:=SY mL yD
def qz:Sg:=⟨[(true,T3),zI],[zI],Vn⟩
theorem xd:tE mM [] 123 qz:=fun _=>by kernel_rfl
def mO:tL:=(123,qz)::mM
theorem mQ:tO mO:=SY mN xd
end Go.Proofs.YtfipnhjfbebeiabGreatDoor.Pt
