/- The evaluator comes to each of the plain functions. No condition. -/
import Derived.Test.YthpkjfabdccpdaaGreatPt7
set_option linter.all false
namespace Go.Proofs.YthpkjfabdccpdaaGreat.Pt
open Go Go.Proofs.YthpkjfabdccpdaaGreat.Sv Go.Proofs.YthpkjfabdccpdaaGreat.Pl
set_option maxRecDepth 1000000
set_option linter.unusedVariables false
def ki:List (Nat×Nat×Nat×An):=[(229,3,3,.loop { keep:=[0,1,4],kb:=[],pl:=[.slot 5 false zJ,.slot 6 false zJ],ex:=[(.exit 0,[])],pay:=.unit })]
theorem oI (x:AG [(false,(.sl false (.sl true T2))),(false,(.sl false zJ))]):Ac Tryz.prog (AC pu VB) (AI ki) 3000 60 229 [(false,(.sl false (.sl true T2))),(false,(.sl false zJ))] [zI] x=DW x:=by kernel_rfl
def VC:List (FuncId×Sg):=(229,⟨[(false,(.sl false (.sl true T2))),(false,(.sl false zJ))],[zI],DW⟩)::VB
theorem Xv:TabOK Tryz.prog (AC pu VC):=AF Xu oI
def kj:List (Nat×Nat×Nat×An):=[(228,7,21,.loop { keep:=[0,1,15,23,11,27,5,17,25,13,21,4,16,24,12,18,26,14,22],kb:=[0],pl:=[.slot 3 false zJ,.slot 2 false zJ,.slot 6 false zJ],ex:=[(.ret,[]),(.exit 0,[])],pay:=.unit }),(228,15,38,.loop { keep:=[0,1,7,15,63,23,11,67,27,59,5,17,65,25,57,13,21,69,61,4,16,64,24,56,12,68,60,6,18,66,26,58,14,22,70,62],kb:=[0],pl:=[.slot 3 false zJ,.slot 2 false zJ,.slot 8 false zJ],ex:=[(.ret,[]),(.exit 2,[])],pay:=.unit })]
theorem oJ (x:AG [(true,T9)]):Ac Tryz.prog (AC pu VC) (AI kj) 3000 60 228 [(true,T9)] [zI,zI] x=DY x:=by kernel_rfl
def VD:List (FuncId×Sg):=(228,⟨[(true,T9)],[zI,zI],DY⟩)::VC
theorem Xw:TabOK Tryz.prog (AC pu VD):=AF Xv oJ
def kl:List (Nat×Nat×Nat×An):=[(193,3,4,.loop { keep:=[0,1,2],kb:=[0],pl:=[.slot 3 false zJ,.slot 4 false zJ],ex:=[(.exit 0,[])],pay:=.unit })]
theorem oK (x:AG [(true,H5)]):Ac Tryz.prog (AC pu VD) (AI kl) 3000 60 193 [(true,H5)] [zI] x=D3 x:=by kernel_rfl
def VE:List (FuncId×Sg):=(193,⟨[(true,H5)],[zI],D3⟩)::VD
theorem Xx:TabOK Tryz.prog (AC pu VE):=AF Xw oK
def km:List (Nat×Nat×Nat×An):=[(195,7,18,.loop { keep:=[0,15,11,19,5,17,13,16,12,20,6,14],kb:=[],pl:=[.srow 3 false zJ false,.srow 7 true T2 false,.srow 2 true T2 false,.slot 4 false zJ,.srow 8 false zJ false,.srow 9 false zJ true],ex:=[(.ret,[])],pay:=.unit,plx:=[.srow 3 false zJ false,.srow 2 true T2 false,.slot 4 false zJ] })]
theorem oL (x:AG [(false,(.sl false (.sl true T2)))]):Ac Tryz.prog (AC pu VE) (AI km) 3000 60 195 [(false,(.sl false (.sl true T2)))] [(false,(.sl true T2)),(false,(.sl false zJ)),zI] x=Ek x:=by kernel_rfl
def VF:List (FuncId×Sg):=(195,⟨[(false,(.sl false (.sl true T2)))],[(false,(.sl true T2)),(false,(.sl false zJ)),zI],Ek⟩)::VE
theorem Xy:TabOK Tryz.prog (AC pu VF):=AF Xx oL
theorem oM (x:AG [(true,O0)]):Ac Tryz.prog (AC pu VF) (AI []) 3000 60 271 [(true,O0)] [zI] x=FJ x:=by kernel_rfl
def VG:List (FuncId×Sg):=(271,⟨[(true,O0)],[zI],FJ⟩)::VF
theorem Xz:TabOK Tryz.prog (AC pu VG):=AF Xy oM
theorem oN (x:AG [(true,O0),(true,T2)]):Ac Tryz.prog (AC pu VG) (AI []) 3000 60 251 [(true,O0),(true,T2)] [(false,.bool),(true,O0),zI] x=F8 x:=by kernel_rfl
def VH:List (FuncId×Sg):=(251,⟨[(true,O0),(true,T2)],[(false,.bool),(true,O0),zI],F8⟩)::VG
theorem X2:TabOK Tryz.prog (AC pu VH):=AF Xz oN
def kn:List (Nat×Nat×Nat×An):=[(232,6,12,.loop { keep:=[0,1,7,15,17,13,16,14],kb:=[],pl:=[.slot 5 false zJ,.slot 9 false zJ,.srow 4 true T2 false,.srow 8 true T2 false,.slot 6 false zJ,.box 8 [.lf .bool,.lf .str,.lf .bool]],ex:=[(.ret,[]),(.exit 0,[])],pay:=.unit })]
theorem oO (x:AG [(false,(.sl true T2)),(false,.bool)]):Ac Tryz.prog (AC pu VH) (AI kn) 3000 60 232 [(false,(.sl true T2)),(false,.bool)] [(false,(.sl true T2)),zI,zI] x=El x:=by kernel_rfl
def VI:List (FuncId×Sg):=(232,⟨[(false,(.sl true T2)),(false,.bool)],[(false,(.sl true T2)),zI,zI],El⟩)::VH
theorem X3:TabOK Tryz.prog (AC pu VI):=AF X2 oO
theorem oQ (x:AG [(false,(.sl true T2)),(false,.bool)]):Ac Tryz.prog (AC pu VI) (AI []) 3000 60 196 [(false,(.sl true T2)),(false,.bool)] [(false,(.sl true T2)),(true,O0)] x=C7 x:=by kernel_rfl
def VJ:List (FuncId×Sg):=(196,⟨[(false,(.sl true T2)),(false,.bool)],[(false,(.sl true T2)),(true,O0)],C7⟩)::VI
theorem X4:TabOK Tryz.prog (AC pu VJ):=AF X3 oQ
def ko:List (Nat×Nat×Nat×An):=[(198,4,7,.loop { keep:=[0,1,7,9,8,6,10],kb:=[],pl:=[.slot 5 false zJ,.slot 4 false .bool],ex:=[(.ret,[]),(.exit 0,[])],pay:=.unit })]
theorem oR (x:AG [(false,(.sl true T2)),(false,(.sl true T2))]):Ac Tryz.prog (AC pu VJ) (AI ko) 3000 60 198 [(false,(.sl true T2)),(false,(.sl true T2))] [(false,.bool)] x=Bp x:=by kernel_rfl
def VK:List (FuncId×Sg):=(198,⟨[(false,(.sl true T2)),(false,(.sl true T2))],[(false,.bool)],Bp⟩)::VJ
theorem X5:TabOK Tryz.prog (AC pu VK):=AF X4 oR
theorem oS (x:AG [(true,H5)]):Ac Tryz.prog (AC pu VK) (AI []) 3000 60 191 [(true,H5)] [zI] x=FK x:=by kernel_rfl
def VM:List (FuncId×Sg):=(191,⟨[(true,H5)],[zI],FK⟩)::VK
theorem X6:TabOK Tryz.prog (AC pu VM):=AF X5 oS
def kq:List (Nat×Nat×Nat×An):=[(192,6,14,.loop { keep:=[0,1,3,11,5,9,13,2,4,8,12,10,14],kb:=[0],pl:=[.slot 7 false zJ,.slot 6 false zJ],ex:=[(.exit 0,[])],pay:=.unit })]
theorem oT (x:AG [(true,T9)]):Ac Tryz.prog (AC pu VM) (AI kq) 3000 60 192 [(true,T9)] [zI,zI] x=F9 x:=by kernel_rfl
def VN:List (FuncId×Sg):=(192,⟨[(true,T9)],[zI,zI],F9⟩)::VM
theorem X7:TabOK Tryz.prog (AC pu VN):=AF X6 oT
theorem oU (x:AG [(true,H5)]):Ac Tryz.prog (AC pu VN) (AI []) 3000 60 117 [(true,H5)] [zI,zI] x=BF x:=by kernel_rfl
def VO:List (FuncId×Sg):=(117,⟨[(true,H5)],[zI,zI],BF⟩)::VN
theorem X8:TabOK Tryz.prog (AC pu VO):=AF X7 oU
theorem oV (x:AG [(true,T9)]):Ac Tryz.prog (AC pu VO) (AI []) 3000 60 194 [(true,T9)] [(true,T2),zI,(true,T9),zI] x=D4 x:=by kernel_rfl
def VP:List (FuncId×Sg):=(194,⟨[(true,T9)],[(true,T2),zI,(true,T9),zI],D4⟩)::VO
theorem X9:TabOK Tryz.prog (AC pu VP):=AF X8 oV
def kr:List (Nat×Nat×Nat×An):=[(118,11,32,.loop { keep:=[0,1,7,15,31,23,39,19,35,27,5,9,17,33,25,21,37,2,4,8,16,32,24,20,36,6,10,18,34,26,22,30],kb:=[0,1],pl:=[.slot 11 false zJ,.box 29 [.lf (.sl false (.sl true T2)),.lf (.sl false zJ),.lf (.sl true T5),.lf (.sl false zJ),.lf zJ,.lf .bool,.lf .str,.lf .bool,.lf (.sl true T2),.lf zJ]],ex:=[(.exit 0,[])],pay:=.unit })]
theorem oW (x:AG [(true,H5),zI]):Ac Tryz.prog (AC pu VP) (AI kr) 3000 60 118 [(true,H5),zI] [(true,H5),zI,zI] x=BQ x:=by kernel_rfl
def VQ:List (FuncId×Sg):=(118,⟨[(true,H5),zI],[(true,H5),zI,zI],BQ⟩)::VP
theorem YA:TabOK Tryz.prog (AC pu VQ):=AF X9 oW
end Go.Proofs.YthpkjfabdccpdaaGreat.Pt
