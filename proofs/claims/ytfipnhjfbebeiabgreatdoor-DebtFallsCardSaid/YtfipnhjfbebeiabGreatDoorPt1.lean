/- The evaluator comes to each of the plain functions. No condition. -/
import Derived.Test.YtfipnhjfbebeiabGreatDoorPt0
set_option linter.all false
namespace Go.Proofs.YtfipnhjfbebeiabGreatDoor.Pt
open Go Sv Pl
set_option maxRecDepth 1000000
def u6:Sg:=⟨[(true,T4),zI],[(false,.bool)],UX⟩
theorem zp:tE kh [] 24 u6:=fun _=>by kernel_rfl
def kj:tL:=(24,u6)::kh
theorem kl:tO kj:=SY ki zp
def t6:tA:=[(118,6,9,.loop { keep:=[0,7,11,9,8,12,10],kb:=[],pl:=[.slot 3 false zJ,.slot 2 false zJ,.slot 4 false zJ],ex:=[(.ret,[]),(.exit 0,[])],pay:=.unit })]
def qp:Sg:=⟨[(false,(.sl false (.sl true T2)))],[zI,zI],V9⟩
theorem xO:tE kj t6 118 qp:=fun _=>by kernel_rfl
def km:tL:=(118,qp)::kj
theorem kn:tO km:=SY kl xO
def uS:tA:=[(179,6,8,.loop { keep:=[0,7,5,9,4,8,6],kb:=[],pl:=[.slot 3 false zJ,.slot 2 false zJ],ex:=[(.ret,[]),(.exit 0,[])],pay:=.unit })]
def ri:Sg:=⟨[(false,(.sl true T5))],[zI],XV⟩
theorem yJ:tE km uS 179 ri:=fun _=>by kernel_rfl
def ko:tL:=(179,ri)::km
theorem kq:tO ko:=SY kn yJ
def sQ:Sg:=⟨[(false,(.sl true T5)),zI,zI],[(false,.bool)],XC⟩
theorem yj:tE ko [] 211 sQ:=fun _=>by kernel_rfl
def kr:tL:=(211,sQ)::ko
theorem ks:tO kr:=SY kq yj
theorem yX (r:AP [(false,(.sl true T5)),zI]->Option (AP [zI,zI])) (x:AP [(false,(.sl true T5)),zI]):OU Tryz.prog (Ae pu ((200,⟨[(false,(.sl true T5)),zI],[zI,zI],r⟩)::kr)) (RM []) 3000 60 200 [(false,(.sl true T5)),zI] [zI,zI] x=UE r x:=by kernel_rfl
def ku:tL:=(200,⟨[(false,(.sl true T5)),zI],[zI,zI],NE (α:=AP [(false,(.sl true T5)),zI]) (β:=AP [zI,zI]) UE 100⟩)::kr
theorem kw:tO ku:=Ss ks yX (by rfl) (by rfl) 100
def uT:tA:=[(180,3,11,.loop { keep:=[0,3,5,9,2,8,6],kb:=[0],pl:=[.slot 4 false zJ,.box 8 [.ow true T5 false,.ow false zJ true,.lf zJ]],ex:=[(.exit 0,[])],pay:=.unit })]
def rm:Sg:=⟨[(false,(.sl true T5))],[(true,T7)],Xo⟩
theorem yK:tE ku uT 180 rm:=fun _=>by kernel_rfl
def ky:tL:=(180,rm)::ku
theorem kz:tO ky:=SY kw yK
def rK:Sg:=⟨[(false,(.sl true T5))],[(true,T7),zI],Wc⟩
theorem xq:tE ky [] 158 rK:=fun _=>by kernel_rfl
def lA:tL:=(158,rK)::ky
theorem lB:tO lA:=SY kz xq
def t5:tA:=[(117,4,12,.loop { keep:=[0,1,15,11,5,9,13,4,12,10,14],kb:=[0,3,8,6],pl:=[.slot 7 false zJ,.srow 6 true T5 false],ex:=[(.exit 0,[])],pay:=.unit })]
def qo:Sg:=⟨[(false,(.sl false (.sl true T2))),(false,(.sl false zJ))],[(true,T9)],Vl⟩
theorem xN:tE lA t5 117 qo:=fun _=>by kernel_rfl
def lC:tL:=(117,qo)::lA
theorem lD:tO lC:=SY lB xN
def qk:Sg:=⟨[(false,(.sl false (.sl true T2)))],[(true,T9),zI,zI],YN⟩
theorem xJ:tE lC [] 113 qk:=fun _=>by kernel_rfl
def lE:tL:=(113,qk)::lC
theorem lF:tO lE:=SY lD xJ
def ql:Sg:=⟨[(false,.bool)],[(true,pG)],Vm⟩
theorem xK:tE lE [] 114 ql:=fun _=>by kernel_rfl
def lG:tL:=(114,ql)::lE
theorem lH:tO lG:=SY lF xK
def vi:Sg:=⟨[(false,(.sl false (.sl true T2))),(false,.bool)],[(true,eB),zI,zI],XX⟩
theorem e66:tE lG [] 66 vi:=fun _=>by kernel_rfl
def lI:tL:=(66,vi)::lG
theorem lJ:tO lI:=SY lH e66
def u7:Sg:=⟨[(true,T4),zI,(false,.bool)],[(true,Z7)],UF⟩
theorem zq:tE lI [] 25 u7:=fun _=>by kernel_rfl
def lK:tL:=(25,u7)::lI
theorem lL:tO lK:=SY lJ zq
def t8:tA:=[(120,4,7,.loop { keep:=[0,1,7,9,8,6,10],kb:=[],pl:=[.slot 5 false zJ,.slot 4 false .bool],ex:=[(.ret,[]),(.exit 0,[])],pay:=.unit })]
def qt:Sg:=⟨[(false,(.sl false zJ)),(false,(.sl false zJ))],[(false,.bool)],Xn⟩
theorem xQ:tE lK t8 120 qt:=fun _=>by kernel_rfl
def lM:tL:=(120,qt)::lK
theorem lN:tO lM:=SY lL xQ
def t9:tA:=[(121,4,26,.loop { keep:=[0,1,3,7,15,23,11,19,27,9,17,25,13,21,2,8,16,24,12,20,6,10,18,26,14,22],kb:=[0,1],pl:=[.slot 5 false zJ,.slot 4 false .bool],ex:=[(.ret,[]),(.exit 0,[])],pay:=.unit })]
def qu:Sg:=⟨[(true,T7),(true,T7)],[(false,.bool)],W9⟩
theorem xR:tE lM t9 121 qu:=fun _=>by kernel_rfl
def lO:tL:=(121,qu)::lM
theorem lQ:tO lO:=SY lN xR
end Go.Proofs.YtfipnhjfbebeiabGreatDoor.Pt
