/- The evaluator comes to each of the plain functions. No condition. -/
import Derived.Test.YtfipnhjfbebeiaaGreatDoorPt0
set_option linter.all false
namespace Go.Proofs.YtfipnhjfbebeiaaGreatDoor.Pt
open Go Sv Pl
set_option maxRecDepth 1000000
def u6:Sg:=⟨[(true,T4),zI],[(false,.bool)],UW⟩
theorem z8:tE kY [] 35 u6:=fun _=>by kernel_rfl
def ka:tL:=(35,u6)::kY
theorem ke:tO ka:=SY kZ z8
def th:tA:=[(118,6,9,.loop { keep:=[0,7,11,9,8,12,10],kb:=[],pl:=[.slot 3 false zJ,.slot 2 false zJ,.slot 4 false zJ],ex:=[(.ret,[]),(.exit 0,[])],pay:=.unit })]
def qh:Sg:=⟨[(false,(.sl false (.sl true T2)))],[zI,zI],V9⟩
theorem xF:tE ka th 118 qh:=fun _=>by kernel_rfl
def kg:tL:=(118,qh)::ka
theorem kh:tO kg:=SY ke xF
def uD:tA:=[(169,6,8,.loop { keep:=[0,7,5,9,4,8,6],kb:=[],pl:=[.slot 3 false zJ,.slot 2 false zJ],ex:=[(.ret,[]),(.exit 0,[])],pay:=.unit })]
def rQ:Sg:=⟨[(false,(.sl true T5))],[zI],XV⟩
theorem yB:tE kg uD 169 rQ:=fun _=>by kernel_rfl
def ki:tL:=(169,rQ)::kg
theorem kj:tO ki:=SY kh yB
def sL:Sg:=⟨[(false,(.sl true T5)),zI,zI],[(false,.bool)],XB⟩
theorem yh:tE ki [] 202 sL:=fun _=>by kernel_rfl
def kl:tL:=(202,sL)::ki
theorem km:tO kl:=SY kj yh
theorem yU (r:AP [(false,(.sl true T5)),zI]->Option (AP [zI,zI])) (x:AP [(false,(.sl true T5)),zI]):OU Tryz.prog (Ae pu ((189,⟨[(false,(.sl true T5)),zI],[zI,zI],r⟩)::kl)) (RM []) 3000 60 189 [(false,(.sl true T5)),zI] [zI,zI] x=UD r x:=by kernel_rfl
def kn:tL:=(189,⟨[(false,(.sl true T5)),zI],[zI,zI],NE (α:=AP [(false,(.sl true T5)),zI]) (β:=AP [zI,zI]) UD 100⟩)::kl
theorem ko:tO kn:=Ss km yU (by rfl) (by rfl) 100
def uF:tA:=[(170,3,11,.loop { keep:=[0,3,5,9,2,8,6],kb:=[0],pl:=[.slot 4 false zJ,.box 8 [.ow true T5 false,.ow false zJ true,.lf zJ]],ex:=[(.exit 0,[])],pay:=.unit })]
def rR:Sg:=⟨[(false,(.sl true T5))],[(true,T7)],Xq⟩
theorem yC:tE kn uF 170 rR:=fun _=>by kernel_rfl
def kq:tL:=(170,rR)::kn
theorem kr:tO kq:=SY ko yC
def qz:Sg:=⟨[(false,(.sl true T5))],[(true,T7),zI],Wc⟩
theorem xW:tE kq [] 142 qz:=fun _=>by kernel_rfl
def ks:tL:=(142,qz)::kq
theorem ku:tO ks:=SY kr xW
def tf:tA:=[(117,4,12,.loop { keep:=[0,1,15,11,5,9,13,4,12,10,14],kb:=[0,3,8,6],pl:=[.slot 7 false zJ,.srow 6 true T5 false],ex:=[(.exit 0,[])],pay:=.unit })]
def qg:Sg:=⟨[(false,(.sl false (.sl true T2))),(false,(.sl false zJ))],[(true,T9)],Vk⟩
theorem xE:tE ks tf 117 qg:=fun _=>by kernel_rfl
def kw:tL:=(117,qg)::ks
theorem ky:tO kw:=SY ku xE
def qZ:Sg:=⟨[(false,(.sl false (.sl true T2)))],[(true,T9),zI,zI],YM⟩
theorem xA:tE kw [] 113 qZ:=fun _=>by kernel_rfl
def kz:tL:=(113,qZ)::kw
theorem lA:tO kz:=SY ky xA
def qc:Sg:=⟨[(false,.bool)],[(true,pA)],Vl⟩
theorem xB:tE kz [] 114 qc:=fun _=>by kernel_rfl
def lB:tL:=(114,qc)::kz
theorem lC:tO lB:=SY lA xB
def vY:Sg:=⟨[(false,(.sl false (.sl true T2))),(false,.bool)],[(true,dy),zI,zI],XX⟩
theorem e71:tE lB [] 71 vY:=fun _=>by kernel_rfl
def lD:tL:=(71,vY)::lB
theorem lE:tO lD:=SY lC e71
def u7:Sg:=⟨[(true,T4),zI,(false,.bool)],[(true,Z5)],UF⟩
theorem z9:tE lD [] 36 u7:=fun _=>by kernel_rfl
def lF:tL:=(36,u7)::lD
theorem lG:tO lF:=SY lE z9
def tn:tA:=[(120,4,7,.loop { keep:=[0,1,7,9,8,6,10],kb:=[],pl:=[.slot 5 false zJ,.slot 4 false .bool],ex:=[(.ret,[]),(.exit 0,[])],pay:=.unit })]
def qj:Sg:=⟨[(false,(.sl false zJ)),(false,(.sl false zJ))],[(false,.bool)],Xp⟩
theorem xH:tE lF tn 120 qj:=fun _=>by kernel_rfl
def lH:tL:=(120,qj)::lF
theorem lI:tO lH:=SY lG xH
def tp:tA:=[(121,4,26,.loop { keep:=[0,1,3,7,15,23,11,19,27,9,17,25,13,21,2,8,16,24,12,20,6,10,18,26,14,22],kb:=[0,1],pl:=[.slot 5 false zJ,.slot 4 false .bool],ex:=[(.ret,[]),(.exit 0,[])],pay:=.unit })]
def qk:Sg:=⟨[(true,T7),(true,T7)],[(false,.bool)],W8⟩
theorem xI:tE lH tp 121 qk:=fun _=>by kernel_rfl
def lJ:tL:=(121,qk)::lH
theorem lK:tO lJ:=SY lI xI
end Go.Proofs.YtfipnhjfbebeiaaGreatDoor.Pt
