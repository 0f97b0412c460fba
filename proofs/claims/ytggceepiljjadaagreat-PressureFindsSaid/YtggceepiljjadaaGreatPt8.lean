/- The evaluator comes to each of the plain functions. No condition. -/
import Derived.Test.YtggceepiljjadaaGreatPt7
set_option linter.all false
namespace Go.Proofs.YtggceepiljjadaaGreat.Pt
open Go Sv Pl
set_option maxRecDepth 1000000
def tZ:tA:=[(115,3,3,.loop { keep:=[0,1,4],kb:=[],pl:=[.slot 5 false zJ,.slot 6 false zJ],ex:=[(.exit 0,[])],pay:=.unit })]
def qw:Sg:=⟨[(false,(.sl false (.sl true T2))),(false,(.sl false zJ))],[zI],WJ⟩
theorem xG:tE fK tZ 115 qw:=fun _=>by kernel_rfl
def fL:tL:=(115,qw)::fK
theorem iw:tO fL:=SR iv xG
def tY:tA:=[(114,7,21,.loop { keep:=[0,1,15,23,11,27,5,17,25,13,21,4,16,24,12,18,26,14,22],kb:=[0],pl:=[.slot 3 false zJ,.slot 2 false zJ,.slot 6 false zJ],ex:=[(.ret,[]),(.exit 0,[])],pay:=.unit }),(114,15,38,.loop { keep:=[0,1,7,15,63,23,11,67,27,59,5,17,65,25,57,13,21,69,61,4,16,64,24,56,12,68,60,6,18,66,26,58,14,22,70,62],kb:=[0],pl:=[.slot 3 false zJ,.slot 2 false zJ,.slot 8 false zJ],ex:=[(.ret,[]),(.exit 2,[])],pay:=.unit })]
def qv:Sg:=⟨[(true,T9)],[zI,zI],WI⟩
theorem xF:tE fL tY 114 qv:=fun _=>by kernel_rfl
def fM:tL:=(114,qv)::fL
theorem iy:tO fM:=SR iw xF
def wm:tA:=[(79,3,4,.loop { keep:=[0,1,2],kb:=[0],pl:=[.slot 3 false zJ,.slot 4 false zJ],ex:=[(.exit 0,[])],pay:=.unit })]
def vd:Sg:=⟨[(true,d9)],[zI],Wb⟩
theorem e79:tE fM wm 79 vd:=fun _=>by kernel_rfl
def fN:tL:=(79,vd)::fM
theorem i0:tO fN:=SR iy e79
def wo:tA:=[(81,7,18,.loop { keep:=[0,15,11,19,5,17,13,16,12,20,6,14],kb:=[],pl:=[.srow 3 false zJ false,.srow 7 true T2 false,.srow 2 true T2 false,.slot 4 false zJ,.srow 8 false zJ false,.srow 9 false zJ true],ex:=[(.ret,[])],pay:=.unit,plx:=[.srow 3 false zJ false,.srow 2 true T2 false,.slot 4 false zJ] })]
def vi:Sg:=⟨[(false,(.sl false (.sl true T2)))],[(false,(.sl true T2)),(false,(.sl false zJ)),zI],Wz⟩
theorem e81:tE fN wo 81 vi:=fun _=>by kernel_rfl
def fO:tL:=(81,vi)::fN
theorem i4:tO fO:=SR i0 e81
def rp:Sg:=⟨[(true,pQ)],[zI],XZ⟩
theorem yA:tE fO [] 160 rp:=fun _=>by kernel_rfl
def fQ:tL:=(160,rp)::fO
theorem i5:tO fQ:=SR i4 yA
def rR:Sg:=⟨[(true,pQ),(true,T2)],[(false,.bool),(true,pQ),zI],Xy⟩
theorem xd:tE fQ [] 140 rR:=fun _=>by kernel_rfl
def fR:tL:=(140,rR)::fQ
theorem i6:tO fR:=SR i5 xd
def te:tA:=[(118,6,12,.loop { keep:=[0,1,7,15,17,13,16,14],kb:=[],pl:=[.slot 5 false zJ,.slot 9 false zJ,.srow 4 true T2 false,.srow 8 true T2 false,.slot 6 false zJ,.box 8 [.lf .bool,.lf .str,.lf .bool]],ex:=[(.ret,[]),(.exit 0,[])],pay:=.unit })]
def qz:Sg:=⟨[(false,(.sl true T2)),(false,.bool)],[(false,(.sl true T2)),zI,zI],XF⟩
theorem xJ:tE fR te 118 qz:=fun _=>by kernel_rfl
def fS:tL:=(118,qz)::fR
theorem i7:tO fS:=SR i6 xJ
def vj:Sg:=⟨[(false,(.sl true T2)),(false,.bool)],[(false,(.sl true T2)),(true,pQ)],Vu⟩
theorem e82:tE fS [] 82 vj:=fun _=>by kernel_rfl
def fT:tL:=(82,vj)::fS
theorem i8:tO fT:=SR i7 e82
def wt:tA:=[(84,4,7,.loop { keep:=[0,1,7,9,8,6,10],kb:=[],pl:=[.slot 5 false zJ,.slot 4 false .bool],ex:=[(.ret,[]),(.exit 0,[])],pay:=.unit })]
def vn:Sg:=⟨[(false,(.sl true T2)),(false,(.sl true T2))],[(false,.bool)],U0⟩
theorem e84:tE fT wt 84 vn:=fun _=>by kernel_rfl
def fU:tL:=(84,vn)::fT
theorem i9:tO fU:=SR i8 e84
def vY:Sg:=⟨[(true,d9)],[zI],Xb⟩
theorem e77:tE fU [] 77 vY:=fun _=>by kernel_rfl
def fV:tL:=(77,vY)::fU
theorem jA:tO fV:=SR i9 e77
def wj:tA:=[(78,6,14,.loop { keep:=[0,1,3,11,5,9,13,2,4,8,12,10,14],kb:=[0],pl:=[.slot 7 false zJ,.slot 6 false zJ],ex:=[(.exit 0,[])],pay:=.unit })]
def vZ:Sg:=⟨[(true,T9)],[zI,zI],Xw⟩
theorem e78:tE fV wj 78 vZ:=fun _=>by kernel_rfl
def fW:tL:=(78,vZ)::fV
theorem jB:tO fW:=SR jA e78
def u3:Sg:=⟨[(true,d9)],[zI,zI],US⟩
theorem zp:tE fW [] 45 u3:=fun _=>by kernel_rfl
def fX:tL:=(45,u3)::fW
theorem jC:tO fX:=SR jB zp
def ve:Sg:=⟨[(true,T9)],[(true,T2),zI,(true,T9),zI],Wa⟩
theorem e80:tE fX [] 80 ve:=fun _=>by kernel_rfl
def fY:tL:=(80,ve)::fX
theorem jD:tO fY:=SR jC e80
def wT:tA:=[(46,11,32,.loop { keep:=[0,1,7,15,31,23,39,19,35,27,5,9,17,33,25,21,37,2,4,8,16,32,24,20,36,6,10,18,34,26,22,30],kb:=[0,1],pl:=[.slot 11 false zJ,.box 29 [.lf (.sl false (.sl true T2)),.lf (.sl false zJ),.lf (.sl true T5),.lf (.sl false zJ),.lf zJ,.lf .bool,.lf .str,.lf .bool,.lf (.sl true T2),.lf zJ]],ex:=[(.exit 0,[])],pay:=.unit })]
def u4:Sg:=⟨[(true,d9),zI],[(true,d9),zI,zI],UN⟩
theorem zq:tE fY wT 46 u4:=fun _=>by kernel_rfl
def fZ:tL:=(46,u4)::fY
theorem jE:tO fZ:=SR jD zq
end Go.Proofs.YtggceepiljjadaaGreat.Pt
