/- The evaluator comes to each of the plain functions. No condition. -/
import Derived.Test.YthpkjfabdccpdaaGreatPt7
set_option linter.all false
namespace Go.Proofs.YthpkjfabdccpdaaGreat.Pt
open Go Go.Proofs.YthpkjfabdccpdaaGreat.Sv Go.Proofs.YthpkjfabdccpdaaGreat.Pl
set_option maxRecDepth 1000000
set_option linter.unusedVariables false
def ke:List (Nat×Nat×Nat×An):=[(229,3,3,.loop { keep:=[0,1,4],kb:=[],pl:=[.slot 5 false (.int .i64),.slot 6 false (.int .i64)],ex:=[(.exit 0,[])],pay:=.unit })]
theorem nz (x:AG [(false,(.sl false (.sl true T2))),(false,(.sl false (.int .i64)))]):AZ Tryz.prog (AC pu VN) (AH ke) 3000 60 229 [(false,(.sl false (.sl true T2))),(false,(.sl false (.int .i64)))] [(false,(.int .i64))] x=DY x:=by kernel_rfl
def VO:List (FuncId×Sg):=(229,⟨[(false,(.sl false (.sl true T2))),(false,(.sl false (.int .i64)))],[(false,(.int .i64))],DY⟩)::VN
theorem YF:TabOK Tryz.prog (AC pu VO):=AF YE nz
def kg:List (Nat×Nat×Nat×An):=[(228,7,21,.loop { keep:=[0,1,15,23,11,27,5,17,25,13,21,4,16,24,12,18,26,14,22],kb:=[0],pl:=[.slot 3 false (.int .i64),.slot 2 false (.int .i64),.slot 6 false (.int .i64)],ex:=[(.ret,[]),(.exit 0,[])],pay:=.unit }),(228,15,38,.loop { keep:=[0,1,7,15,63,23,11,67,27,59,5,17,65,25,57,13,21,69,61,4,16,64,24,56,12,68,60,6,18,66,26,58,14,22,70,62],kb:=[0],pl:=[.slot 3 false (.int .i64),.slot 2 false (.int .i64),.slot 8 false (.int .i64)],ex:=[(.ret,[]),(.exit 2,[])],pay:=.unit })]
theorem oA (x:AG [(true,T9)]):AZ Tryz.prog (AC pu VO) (AH kg) 3000 60 228 [(true,T9)] [(false,(.int .i64)),(false,(.int .i64))] x=DZ x:=by kernel_rfl
def VP:List (FuncId×Sg):=(228,⟨[(true,T9)],[(false,(.int .i64)),(false,(.int .i64))],DZ⟩)::VO
theorem YG:TabOK Tryz.prog (AC pu VP):=AF YF oA
def kh:List (Nat×Nat×Nat×An):=[(193,3,4,.loop { keep:=[0,1,2],kb:=[0],pl:=[.slot 3 false (.int .i64),.slot 4 false (.int .i64)],ex:=[(.exit 0,[])],pay:=.unit })]
theorem oB (x:AG [(true,IK)]):AZ Tryz.prog (AC pu VP) (AH kh) 3000 60 193 [(true,IK)] [(false,(.int .i64))] x=D8 x:=by kernel_rfl
def VQ:List (FuncId×Sg):=(193,⟨[(true,IK)],[(false,(.int .i64))],D8⟩)::VP
theorem YH:TabOK Tryz.prog (AC pu VQ):=AF YG oB
def ki:List (Nat×Nat×Nat×An):=[(195,7,18,.loop { keep:=[0,15,11,19,5,17,13,16,12,20,6,14],kb:=[],pl:=[.srow 3 false (.int .i64) false,.srow 7 true T2 false,.srow 2 true T2 false,.slot 4 false (.int .i64),.srow 8 false (.int .i64) false,.srow 9 false (.int .i64) true],ex:=[(.ret,[])],pay:=.unit,plx:=[.srow 3 false (.int .i64) false,.srow 2 true T2 false,.slot 4 false (.int .i64)] })]
theorem oC (x:AG [(false,(.sl false (.sl true T2)))]):AZ Tryz.prog (AC pu VQ) (AH ki) 3000 60 195 [(false,(.sl false (.sl true T2)))] [(false,(.sl true T2)),(false,(.sl false (.int .i64))),(false,(.int .i64))] x=Em x:=by kernel_rfl
def VS:List (FuncId×Sg):=(195,⟨[(false,(.sl false (.sl true T2)))],[(false,(.sl true T2)),(false,(.sl false (.int .i64))),(false,(.int .i64))],Em⟩)::VQ
theorem YI:TabOK Tryz.prog (AC pu VS):=AF YH oC
theorem oD (x:AG [(true,PP)]):AZ Tryz.prog (AC pu VS) (AH []) 3000 60 271 [(true,PP)] [(false,(.int .i64))] x=FQ x:=by kernel_rfl
def VT:List (FuncId×Sg):=(271,⟨[(true,PP)],[(false,(.int .i64))],FQ⟩)::VS
theorem YJ:TabOK Tryz.prog (AC pu VT):=AF YI oD
theorem oE (x:AG [(true,PP),(true,T2)]):AZ Tryz.prog (AC pu VT) (AH []) 3000 60 251 [(true,PP),(true,T2)] [(false,.bool),(true,PP),(false,(.int .i64))] x=GJ x:=by kernel_rfl
def VU:List (FuncId×Sg):=(251,⟨[(true,PP),(true,T2)],[(false,.bool),(true,PP),(false,(.int .i64))],GJ⟩)::VT
theorem YK:TabOK Tryz.prog (AC pu VU):=AF YJ oE
def kj:List (Nat×Nat×Nat×An):=[(232,6,12,.loop { keep:=[0,1,7,15,17,13,16,14],kb:=[],pl:=[.slot 5 false (.int .i64),.slot 9 false (.int .i64),.srow 4 true T2 false,.srow 8 true T2 false,.slot 6 false (.int .i64),.box 8 [.lf .bool,.lf .str,.lf .bool]],ex:=[(.ret,[]),(.exit 0,[])],pay:=.unit })]
theorem oF (x:AG [(false,(.sl true T2)),(false,.bool)]):AZ Tryz.prog (AC pu VU) (AH kj) 3000 60 232 [(false,(.sl true T2)),(false,.bool)] [(false,(.sl true T2)),(false,(.int .i64)),(false,(.int .i64))] x=En x:=by kernel_rfl
def VV:List (FuncId×Sg):=(232,⟨[(false,(.sl true T2)),(false,.bool)],[(false,(.sl true T2)),(false,(.int .i64)),(false,(.int .i64))],En⟩)::VU
theorem YL:TabOK Tryz.prog (AC pu VV):=AF YK oF
theorem oG (x:AG [(false,(.sl true T2)),(false,.bool)]):AZ Tryz.prog (AC pu VV) (AH []) 3000 60 196 [(false,(.sl true T2)),(false,.bool)] [(false,(.sl true T2)),(true,PP)] x=C4 x:=by kernel_rfl
def VW:List (FuncId×Sg):=(196,⟨[(false,(.sl true T2)),(false,.bool)],[(false,(.sl true T2)),(true,PP)],C4⟩)::VV
theorem YM:TabOK Tryz.prog (AC pu VW):=AF YL oG
def kl:List (Nat×Nat×Nat×An):=[(198,4,7,.loop { keep:=[0,1,7,9,8,6,10],kb:=[],pl:=[.slot 5 false (.int .i64),.slot 4 false .bool],ex:=[(.ret,[]),(.exit 0,[])],pay:=.unit })]
theorem oH (x:AG [(false,(.sl true T2)),(false,(.sl true T2))]):AZ Tryz.prog (AC pu VW) (AH kl) 3000 60 198 [(false,(.sl true T2)),(false,(.sl true T2))] [(false,.bool)] x=Bx x:=by kernel_rfl
def VX:List (FuncId×Sg):=(198,⟨[(false,(.sl true T2)),(false,(.sl true T2))],[(false,.bool)],Bx⟩)::VW
theorem YN:TabOK Tryz.prog (AC pu VX):=AF YM oH
theorem oI (x:AG [(true,IK)]):AZ Tryz.prog (AC pu VX) (AH []) 3000 60 191 [(true,IK)] [(false,(.int .i64))] x=FS x:=by kernel_rfl
def VY:List (FuncId×Sg):=(191,⟨[(true,IK)],[(false,(.int .i64))],FS⟩)::VX
theorem YO:TabOK Tryz.prog (AC pu VY):=AF YN oI
def km:List (Nat×Nat×Nat×An):=[(192,6,14,.loop { keep:=[0,1,3,11,5,9,13,2,4,8,12,10,14],kb:=[0],pl:=[.slot 7 false (.int .i64),.slot 6 false (.int .i64)],ex:=[(.exit 0,[])],pay:=.unit })]
theorem oJ (x:AG [(true,T9)]):AZ Tryz.prog (AC pu VY) (AH km) 3000 60 192 [(true,T9)] [(false,(.int .i64)),(false,(.int .i64))] x=GK x:=by kernel_rfl
def VZ:List (FuncId×Sg):=(192,⟨[(true,T9)],[(false,(.int .i64)),(false,(.int .i64))],GK⟩)::VY
theorem YP:TabOK Tryz.prog (AC pu VZ):=AF YO oJ
theorem oK (x:AG [(true,IK)]):AZ Tryz.prog (AC pu VZ) (AH []) 3000 60 117 [(true,IK)] [(false,(.int .i64)),(false,(.int .i64))] x=BH x:=by kernel_rfl
def Va:List (FuncId×Sg):=(117,⟨[(true,IK)],[(false,(.int .i64)),(false,(.int .i64))],BH⟩)::VZ
theorem YQ:TabOK Tryz.prog (AC pu Va):=AF YP oK
theorem oL (x:AG [(true,T9)]):AZ Tryz.prog (AC pu Va) (AH []) 3000 60 194 [(true,T9)] [(true,T2),(false,(.int .i64)),(true,T9),(false,(.int .i64))] x=D9 x:=by kernel_rfl
def Vb:List (FuncId×Sg):=(194,⟨[(true,T9)],[(true,T2),(false,(.int .i64)),(true,T9),(false,(.int .i64))],D9⟩)::Va
theorem YR:TabOK Tryz.prog (AC pu Vb):=AF YQ oL
def kn:List (Nat×Nat×Nat×An):=[(118,11,32,.loop { keep:=[0,1,7,15,31,23,39,19,35,27,5,9,17,33,25,21,37,2,4,8,16,32,24,20,36,6,10,18,34,26,22,30],kb:=[0,1],pl:=[.slot 11 false (.int .i64),.box 29 [.lf (.sl false (.sl true T2)),.lf (.sl false (.int .i64)),.lf (.sl true T5),.lf (.sl false (.int .i64)),.lf (.int .i64),.lf .bool,.lf .str,.lf .bool,.lf (.sl true T2),.lf (.int .i64)]],ex:=[(.exit 0,[])],pay:=.unit })]
theorem oM (x:AG [(true,IK),(false,(.int .i64))]):AZ Tryz.prog (AC pu Vb) (AH kn) 3000 60 118 [(true,IK),(false,(.int .i64))] [(true,IK),(false,(.int .i64)),(false,(.int .i64))] x=A5 x:=by kernel_rfl
def Vc:List (FuncId×Sg):=(118,⟨[(true,IK),(false,(.int .i64))],[(true,IK),(false,(.int .i64)),(false,(.int .i64))],A5⟩)::Vb
theorem YS:TabOK Tryz.prog (AC pu Vc):=AF YR oM
end Go.Proofs.YthpkjfabdccpdaaGreat.Pt
