/- The evaluator comes to each of the plain functions. No condition. -/
import Derived.Test.YtbahicnpiefmlaaGreatDoorPt3
set_option linter.all false
namespace Go.Proofs.YtbahicnpiefmlaaGreatDoor.Pt
open Go Sv Pl
set_option maxRecDepth 1000000
def ry:tA:=[(204,4,9,.loop { keep:=[0,1,7,11,9,8,12,6,10],kb:=[],pl:=[.slot 13 false zJ,.slot 4 false .bool],ex:=[(.ret,[]),(.exit 0,[])],pay:=.unit })]
def pA:Sg:=⟨[(false,(.sl true T5)),(false,(.sl true T5))],[(false,.bool)],UB⟩
theorem vg:tE ka ry 204 pA:=fun _=>by kernel_rfl
def ke:tL:=(204,pA)::ka
theorem kg:tO ke:=SX kc vg
def rx:tA:=[(203,4,9,.loop { keep:=[0,1,7,11,9,8,12,6,10],kb:=[],pl:=[.slot 13 false zJ,.slot 4 false .bool],ex:=[(.ret,[]),(.exit 0,[])],pay:=.unit })]
def o9:Sg:=⟨[(false,(.sl false zJ)),(false,(.sl false zJ))],[(false,.bool)],Tv⟩
theorem ve:tE ke rx 203 o9:=fun _=>by kernel_rfl
def kh:tL:=(203,o9)::ke
theorem ki:tO kh:=SX kg ve
def pw:Sg:=⟨[(true,T7),(true,T7)],[(false,.bool)],WE⟩
theorem wP:tE kh [] 277 pw:=fun _=>by kernel_rfl
def kj:tL:=(277,pw)::kh
theorem kl:tO kj:=SX ki wP
def sf:tA:=[(317,8,25,.loop { keep:=[0,1,15,23,11,19,5,9,17,25,21,4,8,16,24,12,20,10,18,26,14,22],kb:=[0,19],pl:=[.slot 3 false zJ,.slot 27 false zJ,.slot 2 false zJ],ex:=[(.ret,[]),(.exit 0,[])],pay:=.unit })]
def qR:Sg:=⟨[(true,T7)],[zI,zI],Wz⟩
theorem wu:tE kj sf 317 qR:=fun _=>by kernel_rfl
def km:tL:=(317,qR)::kj
theorem kn:tO km:=SX kl wu
def qH:Sg:=⟨[(true,T7)],[zI],WZ⟩
theorem we:tE km [] 305 qH:=fun _=>by kernel_rfl
def ko:tL:=(305,qH)::km
theorem kq:tO ko:=SX kn we
def px:Sg:=⟨[(true,T7)],[zI,(false,.str),zI],VC⟩
theorem wR:tE ko [] 279 px:=fun _=>by kernel_rfl
def kr:tL:=(279,px)::ko
theorem ks:tO kr:=SX kq wR
def qI:Sg:=⟨[(false,.str)],[(false,.bool)],Vg⟩
theorem wg:tE kr [] 306 qI:=fun _=>by kernel_rfl
def ku:tL:=(306,qI)::kr
theorem kw:tO ku:=SX ks wg
def py:Sg:=⟨[(false,.str),(false,.str)],[zI],VI⟩
theorem wS:tE ku [] 280 py:=fun _=>by kernel_rfl
def ky:tL:=(280,py)::ku
theorem kz:tO ky:=SX kw wS
def qK:Sg:=⟨[zI],[(false,.bool)],WI⟩
theorem wh:tE ky [] 307 qK:=fun _=>by kernel_rfl
def lA:tL:=(307,qK)::ky
theorem lB:tO lA:=SX kz wh
def pz:Sg:=⟨[zI,zI],[zI],Uy⟩
theorem wT:tE lA [] 281 pz:=fun _=>by kernel_rfl
def lC:tL:=(281,pz)::lA
theorem lD:tO lC:=SX lB wT
def sS:tA:=[(272,3,5,.loop { keep:=[0,3,7,6],kb:=[],pl:=[.slot 2 false zJ,.slot 8 false zJ],ex:=[(.ret,[]),(.exit 0,[])],pay:=.unit })]
def pn:Sg:=⟨[(false,(.sl false zJ))],[zI],XJ⟩
theorem wM:tE lC sS 272 pn:=fun _=>by kernel_rfl
def lE:tL:=(272,pn)::lC
theorem lF:tO lE:=SX lD wM
def sL:tA:=[(245,7,24,.loop { keep:=[0,1,15,31,23,19,27,5,17,25,13,29,4,16,24,12,28,18,26,14,22,30],kb:=[0],pl:=[.slot 3 false zJ,.slot 2 false zJ,.slot 32 false zJ],ex:=[(.ret,[]),(.exit 0,[])],pay:=.unit }),(245,18,49,.loop { keep:=[0,1,15,31,63,23,71,55,19,67,51,27,59,5,9,17,65,25,57,13,69,53,29,61,4,8,16,32,64,24,56,12,68,52,28,60,18,66,26,58,14,22,70,54,30,62],kb:=[0],pl:=[.slot 3 false zJ,.slot 2 false zJ,.slot 72 false zJ],ex:=[(.ret,[]),(.exit 2,[])],pay:=.unit })]
def pQ:Sg:=⟨[(true,T9)],[zI,zI],Vn⟩
theorem wA:tE lE sL 245 pQ:=fun _=>by kernel_rfl
def lG:tL:=(245,pQ)::lE
theorem lH:tO lG:=SX lF wA
theorem w9:MD Tryz.prog (λf => !pu f) 1000 100 309=true:=by kernel_rfl
theorem wi (a:Ty.den zJ) (l:List (Ty.den zJ)):OU Tryz.prog (Ae pu lG) (RL []) 3000 60 309 [(false,(.sl false zJ))] [(false,(.sl false zJ))] (a::l)=UA (a::l):=by kernel_rfl
def lI:tL:=(309,⟨[(false,(.sl false zJ))],[(false,(.sl false zJ))],UA⟩)::lG
theorem lJ:tO lI:=SY (gg:=false) (c:=zJ) lH w9 rfl wi
theorem xD:Ox Tryz.prog (λf => !pu f) 1000 100 309=true:=by kernel_rfl
theorem xH (a:Ty.den zJ) (l:List (Ty.den zJ)):P2 Tryz.prog (Ae pu lI) (RL []) 3000 60 309 [(false,(.sl false zJ))] false zJ (a::l)=UA (a::l):=by kernel_rfl
def lK:tL:=(309+Cs,⟨[(false,(.sl false zJ))],[(false,(.sl false zJ))],UA⟩)::lI
theorem lL:tO lK:=SZ (gg:=false) (c:=zJ) lJ xD rfl (λa l y h=>R7 h) xH
end Go.Proofs.YtbahicnpiefmlaaGreatDoor.Pt
