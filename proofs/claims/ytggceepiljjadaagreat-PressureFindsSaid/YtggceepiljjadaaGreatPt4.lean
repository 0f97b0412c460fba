/- The evaluator comes to each of the plain functions. No condition. -/
import Derived.Test.YtggceepiljjadaaGreatPt3
set_option linter.all false
namespace Go.Proofs.YtggceepiljjadaaGreat.Pt
open Go Sv Pl
set_option maxRecDepth 1000000
def tW:tA:=[(100,6,17,.loop { keep:=[0,1,3,15,11,19,5,9,17,13,2,4,12,10,18,14],kb:=[0],pl:=[.slot 20 false zJ,.slot 6 false zJ],ex:=[(.exit 0,[])],pay:=.unit })]
def qj:Sg:=⟨[(true,T9)],[zI,zI],Xt⟩
theorem wz:tE m9 tW 100 qj:=fun _=>by kernel_rfl
def nB:tL:=(100,qj)::m9
theorem nC:tO nB:=SR nA wz
def vJ:Sg:=⟨[(true,d9)],[zI,zI],Ug⟩
theorem e63:tE nB [] 63 vJ:=fun _=>by kernel_rfl
def nD:tL:=(63,vJ)::nB
theorem nE:tO nD:=SR nC e63
def rM:Sg:=⟨[(true,T9)],[(true,T2),zI,(true,T9),zI],Uy⟩
theorem xW:tE nD [] 135 rM:=fun _=>by kernel_rfl
def nF:tL:=(135,rM)::nD
theorem nG:tO nF:=SR nE xW
def rN:Sg:=⟨[(true,pQ),(true,T2)],[(false,.bool),(true,pQ),zI],U8⟩
theorem xX:tE nF [] 136 rN:=fun _=>by kernel_rfl
def nH:tL:=(136,rN)::nF
theorem nI:tO nH:=SR nG xX
def wb:tA:=[(102,2,81,.loop { keep:=[0,1,6],kb:=[0,1,39,67,68],pl:=[.slot 7 false zJ,.slot 4 false zJ,.box 28 [.lf (.sl false (.sl true T2)),.lf (.sl false zJ),.lf (.sl true T5),.lf (.sl false zJ),.lf zJ,.lf .bool,.lf .str,.lf .bool,.ow true T2 false,.lf zJ]],ex:=[(.ret,[]),(.exit 0,[])],pay:=.unit }),(102,2,98,.loop { keep:=[0,1,6],kb:=[0,1,39,67,68,86],pl:=[.slot 7 false zJ,.slot 4 false zJ,.box 28 [.lf (.sl false (.sl true T2)),.lf (.sl false zJ),.lf (.sl true T5),.lf (.sl false zJ),.lf zJ,.lf .bool,.lf .str,.lf .bool,.ow true T2 false,.lf zJ]],ex:=[(.ret,[]),(.exit 0,[])],pay:=.unit }),(102,2,133,.loop { keep:=[0,1,6],kb:=[0,1,39,67,68,86],pl:=[.slot 7 false zJ,.slot 4 false zJ,.box 28 [.lf (.sl false (.sl true T2)),.lf (.sl false zJ),.lf (.sl true T5),.lf (.sl false zJ),.lf zJ,.lf .bool,.lf .str,.lf .bool,.ow true T2 false,.lf zJ]],ex:=[(.ret,[]),(.exit 0,[])],pay:=.unit }),(102,2,120,.loop { keep:=[0,1,6],kb:=[0,1,39,67,68,86],pl:=[.slot 7 false zJ,.slot 4 false zJ,.box 28 [.lf (.sl false (.sl true T2)),.lf (.sl false zJ),.lf (.sl true T5),.lf (.sl false zJ),.lf zJ,.lf .bool,.lf .str,.lf .bool,.ow true T2 false,.lf zJ]],ex:=[(.ret,[]),(.exit 0,[])],pay:=.unit })]
def vO:Sg:=⟨[(true,d9),zI],[(true,d9),zI,zI],Uv⟩
theorem e66:tE nH wb 66 vO:=fun _=>by kernel_rfl
def nJ:tL:=(66,vO)::nH
theorem nK:tO nJ:=SR nI e66
def t5:tA:=[(142,4,9,.loop { keep:=[0,1,7,11,9,8,12,6,10],kb:=[],pl:=[.slot 13 false zJ,.slot 4 false .bool],ex:=[(.ret,[]),(.exit 0,[])],pay:=.unit })]
def rS:Sg:=⟨[(false,(.sl true T2)),(false,(.sl true T2))],[(false,.bool)],Ue⟩
theorem xe:tE nJ t5 142 rS:=fun _=>by kernel_rfl
def nL:tL:=(142,rS)::nJ
theorem nM:tO nL:=SR nK xe
def rD:Sg:=⟨[(false,(.sl true T2)),(false,(.sl true T2))],[(false,.bool)],Uo⟩
theorem xN:tE nL [] 123 rD:=fun _=>by kernel_rfl
def nN:tL:=(123,rD)::nL
theorem nO:tO nN:=SR nM xN
def ww:tA:=[(122,4,81,.loop { keep:=[0,1,15,11,13,2,16,12,10,14],kb:=[0,1,7,8],pl:=[.slot 17 false zJ,.slot 6 false .bool],ex:=[(.ret,[]),(.exit 0,[])],pay:=.unit })]
def vz:Sg:=⟨[(true,d9),(true,d9)],[(false,.bool)],V0⟩
theorem e91:tE nN ww 91 vz:=fun _=>by kernel_rfl
def nQ:tL:=(91,vz)::nN
theorem nR:tO nQ:=SR nO e91
def wX:tA:=[(96,1,52,.loop { keep:=[0,1,7,5,6],kb:=[0,47,35,46],pl:=[.slot 8 false zJ,.box 43 [.ow false zJ false]],ex:=[(.exit 0,[(47,0,none)])],pay:=.unit }),(54,10,59,.loop { keep:=[0,1,15,31,47,23,39,19,35,27,43,17,33,25,41,21,37,29,45,4,16,32,40,20,36,28,44,18,34,26,42,14,22,38,30,46],kb:=[0,47,35,43,52],pl:=[.slot 3 false zJ,.slot 2 false zJ,.slot 48 false zJ],ex:=[(.ret,[(47,3,none)]),(.exit 1,[(47,3,none)])],pay:=.unit })]
def vC:Sg:=⟨[(true,bn)],[zI,zI],Ui⟩
theorem zz:tE nQ wX 54 vC:=fun _=>by kernel_rfl
def nS:tL:=(54,vC)::nQ
theorem nT:tO nS:=SR nR zz
def ud:Sg:=⟨[(true,eA)],[zI,zI],ZC⟩
theorem zR:tE nS [] 18 ud:=fun _=>by kernel_rfl
def nU:tL:=(18,ud)::nS
theorem nV:tO nU:=SR nT zR
def ue:Sg:=⟨[(false,.str),zI],[(true,T2)],WS⟩
theorem zT:tE nU [] 19 ue:=fun _=>by kernel_rfl
def nX:tL:=(19,ue)::nU
theorem nY:tO nX:=SR nV zT
def wY:tA:=[(58,7,17,.loop { keep:=[0,1,15,11,19,5,13,21,2,16,12,20,6,10,18,14,22],kb:=[0],pl:=[.slot 23 false zJ,.slot 4 false zJ],ex:=[(.ret,[]),(.exit 0,[])],pay:=.unit })]
def vG:Sg:=⟨[(true,T3),(false,(.sl true T2))],[zI],WR⟩
theorem e58:tE nX wY 58 vG:=fun _=>by kernel_rfl
def nZ:tL:=(58,vG)::nX
theorem na:tO nZ:=SR nY e58
def wx:tA:=[(127,2,13,.loop { keep:=[0,1,4,8],kb:=[0,1],pl:=[.slot 5 false zJ,.slot 6 false zJ],ex:=[(.exit 0,[])],pay:=.unit })]
def v8:Sg:=⟨[(false,(.sl true T2)),(false,.str)],[zI,(false,.bool)],WD⟩
theorem e94:tE nZ wx 94 v8:=fun _=>by kernel_rfl
def ng:tL:=(94,v8)::nZ
theorem nh:tO ng:=SR na e94
def wZ:tA:=[(59,4,16,.loop { keep:=[0,1,15,11,19,13,2,16,12,18],kb:=[0],pl:=[.slot 5 false zJ,.swin 4 true T2,.slot 20 false zJ,.slot 6 false .bool],ex:=[(.exit 0,[])],pay:=.unit })]
def vH:Sg:=⟨[(true,T3),(false,(.sl true T2))],[(false,(.sl true T2)),zI,(false,.bool)],Vq⟩
theorem e59:tE ng wZ 59 vH:=fun _=>by kernel_rfl
def ni:tL:=(59,vH)::ng
theorem nj:tO ni:=SR nh e59
end Go.Proofs.YtggceepiljjadaaGreat.Pt
