/- The evaluator comes to each of the plain functions. No condition. -/
import Derived.Test.YtggceepiljjadaaGreatPt6
set_option linter.all false
namespace Go.Proofs.YtggceepiljjadaaGreat.Pt
open Go Sv Pl
set_option maxRecDepth 1000000
def uy:Sg:=⟨[(true,T4),zI],[(false,.bool)],Ua⟩
theorem zn:tE pC [] 43 uy:=fun _=>by kernel_rfl
def pE:tL:=(43,uy)::pC
theorem pF:tO pE:=SR pD zn
def td:tA:=[(117,6,9,.loop { keep:=[0,7,11,9,8,12,10],kb:=[],pl:=[.slot 3 false zJ,.slot 2 false zJ,.slot 4 false zJ],ex:=[(.ret,[]),(.exit 0,[])],pay:=.unit })]
def qy:Sg:=⟨[(false,(.sl false (.sl true T2)))],[zI,zI],WK⟩
theorem xI:tE pE td 117 qy:=fun _=>by kernel_rfl
def pG:tL:=(117,qy)::pE
theorem pH:tO pG:=SR pF xI
def t9:tA:=[(158,6,8,.loop { keep:=[0,7,5,9,4,8,6],kb:=[],pl:=[.slot 3 false zJ,.slot 2 false zJ],ex:=[(.ret,[]),(.exit 0,[])],pay:=.unit })]
def rm:Sg:=⟨[(false,(.sl true T5))],[zI],XY⟩
theorem xy:tE pG t9 158 rm:=fun _=>by kernel_rfl
def ez:tL:=(158,rm)::pG
theorem ig:tO ez:=SR pH xy
def sI:Sg:=⟨[(false,(.sl true T5)),zI,zI],[(false,.bool)],XE⟩
theorem yQ:tE ez [] 178 sI:=fun _=>by kernel_rfl
def fA:tL:=(178,sI)::ez
theorem ii:tO fA:=SR ig yQ
theorem yL(r:AR [(false,(.sl true T5)),zI]->Option (AR [zI,zI]))(x:AR [(false,(.sl true T5)),zI]):OQ Tryz.prog (Ah pu ((172,⟨[(false,(.sl true T5)),zI],[zI,zI],r⟩)::fA)) (RK []) 3000 60 172 [(false,(.sl true T5)),zI] [zI,zI] x=Tx r x:=by kernel_rfl
def fB:tL:=(172,⟨[(false,(.sl true T5)),zI],[zI,zI],NA (α:=AR [(false,(.sl true T5)),zI]) (β:=AR [zI,zI]) Tx 100⟩)::fA
theorem ij:tO fB:=Sj ii yL (by rfl) (by rfl) 100
def uC:tA:=[(159,3,11,.loop { keep:=[0,3,5,9,2,8,6],kb:=[0],pl:=[.slot 4 false zJ,.box 8 [.ow true T5 false,.ow false zJ true,.lf zJ]],ex:=[(.exit 0,[])],pay:=.unit })]
def rn:Sg:=⟨[(false,(.sl true T5))],[(true,T7)],Xv⟩
theorem xz:tE fB uC 159 rn:=fun _=>by kernel_rfl
def fC:tL:=(159,rn)::fB
theorem ik:tO fC:=SR ij xz
def rQ:Sg:=⟨[(false,(.sl true T5))],[(true,T7),zI],Wl⟩
theorem xc:tE fC [] 139 rQ:=fun _=>by kernel_rfl
def fD:tL:=(139,rQ)::fC
theorem il:tO fD:=SR ik xc
def tb:tA:=[(116,4,12,.loop { keep:=[0,1,15,11,5,9,13,4,12,10,14],kb:=[0,3,8,6],pl:=[.slot 7 false zJ,.srow 6 true T5 false],ex:=[(.exit 0,[])],pay:=.unit })]
def qx:Sg:=⟨[(false,(.sl false (.sl true T2))),(false,(.sl false zJ))],[(true,T9)],Vh⟩
theorem xH:tE fD tb 116 qx:=fun _=>by kernel_rfl
def fE:tL:=(116,qx)::fD
theorem im:tO fE:=SR il xH
def qt:Sg:=⟨[(false,(.sl false (.sl true T2)))],[(true,T9),zI,zI],YR⟩
theorem xD:tE fE [] 112 qt:=fun _=>by kernel_rfl
def fF:tL:=(112,qt)::fE
theorem io:tO fF:=SR im xD
def qu:Sg:=⟨[(false,.bool)],[(true,pQ)],Vi⟩
theorem xE:tE fF [] 113 qu:=fun _=>by kernel_rfl
def fG:tL:=(113,qu)::fF
theorem ip:tO fG:=SR io xE
def vX:Sg:=⟨[(false,(.sl false (.sl true T2))),(false,.bool)],[(true,d9),zI,zI],Xa⟩
theorem e76:tE fG [] 76 vX:=fun _=>by kernel_rfl
def fH:tL:=(76,vX)::fG
theorem iq:tO fH:=SR ip e76
def uz:Sg:=⟨[(true,T4),zI,(false,.bool)],[(true,ah)],UG⟩
theorem zo:tE fH [] 44 uz:=fun _=>by kernel_rfl
def fI:tL:=(44,uz)::fH
theorem ir:tO fI:=SR iq zo
def tf:tA:=[(119,4,7,.loop { keep:=[0,1,7,9,8,6,10],kb:=[],pl:=[.slot 5 false zJ,.slot 4 false .bool],ex:=[(.ret,[]),(.exit 0,[])],pay:=.unit })]
def q9:Sg:=⟨[(false,(.sl false zJ)),(false,(.sl false zJ))],[(false,.bool)],Xu⟩
theorem xK:tE fI tf 119 q9:=fun _=>by kernel_rfl
def fJ:tL:=(119,q9)::fI
theorem iu:tO fJ:=SR ir xK
def th:tA:=[(120,4,26,.loop { keep:=[0,1,3,7,15,23,11,19,27,9,17,25,13,21,2,8,16,24,12,20,6,10,18,26,14,22],kb:=[0,1],pl:=[.slot 5 false zJ,.slot 4 false .bool],ex:=[(.ret,[]),(.exit 0,[])],pay:=.unit })]
def rB:Sg:=⟨[(true,T7),(true,T7)],[(false,.bool)],XC⟩
theorem xL:tE fJ th 120 rB:=fun _=>by kernel_rfl
def fK:tL:=(120,rB)::fJ
theorem iv:tO fK:=SR iu xL
end Go.Proofs.YtggceepiljjadaaGreat.Pt
