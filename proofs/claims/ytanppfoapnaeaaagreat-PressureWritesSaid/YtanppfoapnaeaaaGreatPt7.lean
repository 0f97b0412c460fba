/- The evaluator comes to each of the plain functions. No condition. -/
import Derived.Test.YtanppfoapnaeaaaGreatPt6
set_option linter.all false
namespace Go.Proofs.YtanppfoapnaeaaaGreat.Pt
open Go Sv Pl
set_option maxRecDepth 1000000
def sG:Sg:=⟨[(true,T4),zI],[(false,.bool)],UR⟩
theorem xG:tQ mE [] 82 sG:=fun _=>by kernel_rfl
def mG:tL:=(82,sG)::mE
theorem mH:tO mG:=SS mF xG
def py:tA:=[(142,6,9,.loop { keep:=[0,7,11,9,8,12,10],kb:=[],pl:=[.slot 3 false zJ,.slot 2 false zJ,.slot 4 false zJ],ex:=[(.ret,[]),(.exit 0,[])],pay:=.unit })]
def oE:Sg:=⟨[(false,(.sl false (.sl true T2)))],[zI,zI],Vm⟩
theorem uh:tQ mG py 142 oE:=fun _=>by kernel_rfl
def mI:tL:=(142,oE)::mG
theorem mJ:tO mI:=SS mH uh
def qD:tA:=[(171,6,8,.loop { keep:=[0,7,5,9,4,8,6],kb:=[],pl:=[.slot 3 false zJ,.slot 2 false zJ],ex:=[(.ret,[]),(.exit 0,[])],pay:=.unit })]
def oX:Sg:=⟨[(false,(.sl true T5))],[zI],W3⟩
theorem u7:tQ mI qD 171 oX:=fun _=>by kernel_rfl
def cI:tL:=(171,oX)::mI
theorem fE:tO cI:=SS mJ u7
def og:Sg:=⟨[(false,(.sl true T5)),zI,zI],[(false,.bool)],Wk⟩
theorem vI:tQ cI [] 183 og:=fun _=>by kernel_rfl
def cJ:tL:=(183,og)::cI
theorem fF:tO cJ:=SS fE vI
theorem vF(r:AP [(false,(.sl true T5)),zI]->Option (AP [zI,zI]))(x:AP [(false,(.sl true T5)),zI]):OS Tryz.prog (Ae pu ((179,⟨[(false,(.sl true T5)),zI],[zI,zI],r⟩)::cJ)) (RL []) 3000 60 179 [(false,(.sl true T5)),zI] [zI,zI] x=To r x:=by kernel_rfl
def cK:tL:=(179,⟨[(false,(.sl true T5)),zI],[zI,zI],ND (α:=AP [(false,(.sl true T5)),zI]) (β:=AP [zI,zI]) To 100⟩)::cJ
theorem fG:tO cK:=Sl fF vF (by rfl) (by rfl) 100
def qE:tA:=[(172,3,11,.loop { keep:=[0,3,5,9,2,8,6],kb:=[0],pl:=[.slot 4 false zJ,.box 8 [.ow true T5 false,.ow false zJ true,.lf zJ]],ex:=[(.exit 0,[])],pay:=.unit })]
def oY:Sg:=⟨[(false,(.sl true T5))],[(true,T7)],XR⟩
theorem u9:tQ cK qE 172 oY:=fun _=>by kernel_rfl
def cL:tL:=(172,oY)::cK
theorem fH:tO cL:=SS fG u9
def oN:Sg:=⟨[(false,(.sl true T5))],[(true,T7),zI],WH⟩
theorem uu:tQ cL [] 160 oN:=fun _=>by kernel_rfl
def cM:tL:=(160,oN)::cL
theorem fI:tO cM:=SS fH uu
def px:tA:=[(141,4,12,.loop { keep:=[0,1,15,11,5,9,13,4,12,10,14],kb:=[0,3,8,6],pl:=[.slot 7 false zJ,.srow 6 true T5 false],ex:=[(.exit 0,[])],pay:=.unit })]
def oD:Sg:=⟨[(false,(.sl false (.sl true T2))),(false,(.sl false zJ))],[(true,T9)],VF⟩
theorem ug:tQ cM px 141 oD:=fun _=>by kernel_rfl
def cN:tL:=(141,oD)::cM
theorem fJ:tO cN:=SS fI ug
def nz:Sg:=⟨[(false,(.sl false (.sl true T2)))],[(true,T9),zI,zI],Xp⟩
theorem uc:tQ cN [] 137 nz:=fun _=>by kernel_rfl
def cO:tL:=(137,nz)::cN
theorem fK:tO cO:=SS fJ uc
def oA:Sg:=⟨[(false,.bool)],[(true,mV)],VG⟩
theorem ud:tQ cO [] 138 oA:=fun _=>by kernel_rfl
def cQ:tL:=(138,oA)::cO
theorem fL:tO cQ:=SS fK ud
def nU:Sg:=⟨[(false,(.sl false (.sl true T2))),(false,.bool)],[(true,bT),zI,zI],W5⟩
theorem uI:tQ cQ [] 117 nU:=fun _=>by kernel_rfl
def cR:tL:=(117,nU)::cQ
theorem fM:tO cR:=SS fL uI
def sH:Sg:=⟨[(true,T4),zI,(false,.bool)],[(true,gR)],Tz⟩
theorem xH:tQ cR [] 83 sH:=fun _=>by kernel_rfl
def cS:tL:=(83,sH)::cR
theorem fN:tO cS:=SS fM xH
def pn:tA:=[(135,4,7,.loop { keep:=[0,1,7,9,8,6,10],kb:=[],pl:=[.slot 5 false zJ,.slot 4 false .bool],ex:=[(.ret,[]),(.exit 0,[])],pay:=.unit })]
def nv:Sg:=⟨[(false,(.sl false zJ)),(false,(.sl false zJ))],[(false,.bool)],XQ⟩
theorem ua:tQ cS pn 135 nv:=fun _=>by kernel_rfl
def cU:tL:=(135,nv)::cS
theorem fO:tO cU:=SS fN ua
def po:tA:=[(136,4,26,.loop { keep:=[0,1,3,7,15,23,11,19,27,9,17,25,13,21,2,8,16,24,12,20,6,10,18,26,14,22],kb:=[0,1],pl:=[.slot 5 false zJ,.slot 4 false .bool],ex:=[(.ret,[]),(.exit 0,[])],pay:=.unit })]
def ny:Sg:=⟨[(true,T7),(true,T7)],[(false,.bool)],Wi⟩
theorem ub:tQ cU po 136 ny:=fun _=>by kernel_rfl
def cV:tL:=(136,ny)::cU
theorem fQ:tO cV:=SS fO ub
end Go.Proofs.YtanppfoapnaeaaaGreat.Pt
