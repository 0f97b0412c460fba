/- The evaluator comes to each of the plain functions. No condition. -/
import Derived.Test.YthpkjfabdccpdaaGreatPt6
set_option linter.all false
namespace Go.Proofs.YthpkjfabdccpdaaGreat.Pt
open Go Go.Proofs.YthpkjfabdccpdaaGreat.Sv Go.Proofs.YthpkjfabdccpdaaGreat.Pl
set_option maxRecDepth 1000000
set_option linter.unusedVariables false
theorem nL (x:AG [(true,IE)]):Ac Tryz.prog (AC pu eN) (AI []) 3000 60 167 [(true,IE)] [(false,(.int .i64)),(false,(.int .i64))] x=Bh x:=by kernel_rfl
def eP:List (FuncId×Sg):=(167,⟨[(true,IE)],[(false,(.int .i64)),(false,(.int .i64))],Bh⟩)::eN
theorem eQ:TabOK Tryz.prog (AC pu eP):=AF eO nL
theorem nM (x:AG [(true,T9)]):Ac Tryz.prog (AC pu eP) (AI []) 3000 60 245 [(true,T9)] [(true,T2),(false,(.int .i64)),(true,T9),(false,(.int .i64))] x=B0 x:=by kernel_rfl
def eR:List (FuncId×Sg):=(245,⟨[(true,T9)],[(true,T2),(false,(.int .i64)),(true,T9),(false,(.int .i64))],B0⟩)::eP
theorem eU:TabOK Tryz.prog (AC pu eR):=AF eQ nM
theorem nN (x:AG [(true,PN),(true,T2)]):Ac Tryz.prog (AC pu eR) (AI []) 3000 60 246 [(true,PN),(true,T2)] [(false,.bool),(true,PN),(false,(.int .i64))] x=CA x:=by kernel_rfl
def VE:List (FuncId×Sg):=(246,⟨[(true,PN),(true,T2)],[(false,.bool),(true,PN),(false,(.int .i64))],CA⟩)::eR
theorem Xt:TabOK Tryz.prog (AC pu VE):=AF eU nN
def kK:List (Nat×Nat×Nat×An):=[(216,2,81,.loop { keep:=[0,1,6],kb:=[0,1,39,67,68],pl:=[.slot 7 false (.int .i64),.slot 4 false (.int .i64),.box 28 [.lf (.sl false (.sl true T2)),.lf (.sl false (.int .i64)),.lf (.sl true T5),.lf (.sl false (.int .i64)),.lf (.int .i64),.lf .bool,.lf .str,.lf .bool,.ow true T2 false,.lf (.int .i64)]],ex:=[(.ret,[]),(.exit 0,[])],pay:=.unit }),(216,2,98,.loop { keep:=[0,1,6],kb:=[0,1,39,67,68,86],pl:=[.slot 7 false (.int .i64),.slot 4 false (.int .i64),.box 28 [.lf (.sl false (.sl true T2)),.lf (.sl false (.int .i64)),.lf (.sl true T5),.lf (.sl false (.int .i64)),.lf (.int .i64),.lf .bool,.lf .str,.lf .bool,.ow true T2 false,.lf (.int .i64)]],ex:=[(.ret,[]),(.exit 0,[])],pay:=.unit }),(216,2,133,.loop { keep:=[0,1,6],kb:=[0,1,39,67,68,86],pl:=[.slot 7 false (.int .i64),.slot 4 false (.int .i64),.box 28 [.lf (.sl false (.sl true T2)),.lf (.sl false (.int .i64)),.lf (.sl true T5),.lf (.sl false (.int .i64)),.lf (.int .i64),.lf .bool,.lf .str,.lf .bool,.ow true T2 false,.lf (.int .i64)]],ex:=[(.ret,[]),(.exit 0,[])],pay:=.unit }),(216,2,120,.loop { keep:=[0,1,6],kb:=[0,1,39,67,68,86],pl:=[.slot 7 false (.int .i64),.slot 4 false (.int .i64),.box 28 [.lf (.sl false (.sl true T2)),.lf (.sl false (.int .i64)),.lf (.sl true T5),.lf (.sl false (.int .i64)),.lf (.int .i64),.lf .bool,.lf .str,.lf .bool,.ow true T2 false,.lf (.int .i64)]],ex:=[(.ret,[]),(.exit 0,[])],pay:=.unit })]
theorem nO (x:AG [(true,IE),(false,(.int .i64))]):Ac Tryz.prog (AC pu VE) (AI kK) 3000 60 175 [(true,IE),(false,(.int .i64))] [(true,IE),(false,(.int .i64)),(false,(.int .i64))] x=By x:=by kernel_rfl
def VF:List (FuncId×Sg):=(175,⟨[(true,IE),(false,(.int .i64))],[(true,IE),(false,(.int .i64)),(false,(.int .i64))],By⟩)::VE
theorem Xu:TabOK Tryz.prog (AC pu VF):=AF Xt nO
def kL:List (Nat×Nat×Nat×An):=[(248,4,9,.loop { keep:=[0,1,7,11,9,8,12,6,10],kb:=[],pl:=[.slot 13 false (.int .i64),.slot 4 false .bool],ex:=[(.ret,[]),(.exit 0,[])],pay:=.unit })]
theorem nQ (x:AG [(false,(.sl true T2)),(false,(.sl true T2))]):Ac Tryz.prog (AC pu VF) (AI kL) 3000 60 248 [(false,(.sl true T2)),(false,(.sl true T2))] [(false,.bool)] x=BP x:=by kernel_rfl
def VG:List (FuncId×Sg):=(248,⟨[(false,(.sl true T2)),(false,(.sl true T2))],[(false,.bool)],BP⟩)::VF
theorem Xv:TabOK Tryz.prog (AC pu VG):=AF Xu nQ
theorem nR (x:AG [(false,(.sl true T2)),(false,(.sl true T2))]):Ac Tryz.prog (AC pu VG) (AI []) 3000 60 222 [(false,(.sl true T2)),(false,(.sl true T2))] [(false,.bool)] x=Bo x:=by kernel_rfl
def VH:List (FuncId×Sg):=(222,⟨[(false,(.sl true T2)),(false,(.sl true T2))],[(false,.bool)],Bo⟩)::VG
theorem Xw:TabOK Tryz.prog (AC pu VH):=AF Xv nR
def kM:List (Nat×Nat×Nat×An):=[(221,4,81,.loop { keep:=[0,1,15,11,13,2,16,12,10,14],kb:=[0,1,7,8],pl:=[.slot 17 false (.int .i64),.slot 6 false .bool],ex:=[(.ret,[]),(.exit 0,[])],pay:=.unit })]
theorem nS (x:AG [(true,IE),(true,IE)]):Ac Tryz.prog (AC pu VH) (AI kM) 3000 60 183 [(true,IE),(true,IE)] [(false,.bool)] x=DS x:=by kernel_rfl
def VI:List (FuncId×Sg):=(183,⟨[(true,IE),(true,IE)],[(false,.bool)],DS⟩)::VH
theorem Xx:TabOK Tryz.prog (AC pu VI):=AF Xw nS
def kN:List (Nat×Nat×Nat×An):=[(219,1,52,.loop { keep:=[0,1,7,5,6],kb:=[0,47,35,46],pl:=[.slot 8 false (.int .i64),.box 43 [.ow false (.int .i64) false]],ex:=[(.exit 0,[(47,0,none)])],pay:=.unit }),(107,10,59,.loop { keep:=[0,1,15,31,47,23,39,19,35,27,43,17,33,25,41,21,37,29,45,4,16,32,40,20,36,28,44,18,34,26,42,14,22,38,30,46],kb:=[0,47,35,43,52],pl:=[.slot 3 false (.int .i64),.slot 2 false (.int .i64),.slot 48 false (.int .i64)],ex:=[(.ret,[(47,3,none)]),(.exit 1,[(47,3,none)])],pay:=.unit })]
theorem nT (x:AG [(true,Ge)]):Ac Tryz.prog (AC pu VI) (AI kN) 3000 60 107 [(true,Ge)] [(false,(.int .i64)),(false,(.int .i64))] x=DT x:=by kernel_rfl
def VJ:List (FuncId×Sg):=(107,⟨[(true,Ge)],[(false,(.int .i64)),(false,(.int .i64))],DT⟩)::VI
theorem Xy:TabOK Tryz.prog (AC pu VJ):=AF Xx nT
def kO:List (Nat×Nat×Nat×An):=[(238,2,31,.loop { keep:=[0,1,7,6],kb:=[0,1],pl:=[.slot 4 false (.int .i64),.slot 8 false (.int .i64)],ex:=[(.ret,[]),(.exit 0,[])],pay:=.unit })]
theorem nU (x:AG [(true,Ge),(false,(.int .i64))]):Ac Tryz.prog (AC pu VJ) (AI kO) 3000 60 151 [(true,Ge),(false,(.int .i64))] [(false,(.int .i64)),(false,(.int .i64))] x=Fh x:=by kernel_rfl
def VK:List (FuncId×Sg):=(151,⟨[(true,Ge),(false,(.int .i64))],[(false,(.int .i64)),(false,(.int .i64))],Fh⟩)::VJ
theorem Xz:TabOK Tryz.prog (AC pu VK):=AF Xy nU
theorem oT (x:AG [(true,Ge),(false,(.int .i64))]):Ac Tryz.prog (AC pu VK) (AI []) 3000 60 88 [(true,Ge),(false,(.int .i64))] [(true,Wj),(false,(.int .i64))] x=Cw x:=by kernel_rfl
def VM:List (FuncId×Sg):=(88,⟨[(true,Ge),(false,(.int .i64))],[(true,Wj),(false,(.int .i64))],Cw⟩)::VK
theorem X2:TabOK Tryz.prog (AC pu VM):=AF Xz oT
theorem oU (x:AG [(true,Wj)]):Ac Tryz.prog (AC pu VM) (AI []) 3000 60 89 [(true,Wj)] [(false,.bool)] x=A9 x:=by kernel_rfl
def VN:List (FuncId×Sg):=(89,⟨[(true,Wj)],[(false,.bool)],A9⟩)::VM
theorem X3:TabOK Tryz.prog (AC pu VN):=AF X2 oU
theorem oV (x:AG [(false,(.int .i64)),(false,(.int .i64))]):Ac Tryz.prog (AC pu VN) (AI []) 3000 60 44 [(false,(.int .i64)),(false,(.int .i64))] [(false,(.int .i64)),(false,(.int .i64))] x=FN x:=by kernel_rfl
def VO:List (FuncId×Sg):=(44,⟨[(false,(.int .i64)),(false,(.int .i64))],[(false,(.int .i64)),(false,(.int .i64))],FN⟩)::VN
theorem X4:TabOK Tryz.prog (AC pu VO):=AF X3 oV
theorem oW (x:AG [(true,Wj)]):Ac Tryz.prog (AC pu VO) (AI []) 3000 60 92 [(true,Wj)] [(false,.bool)] x=BL x:=by kernel_rfl
def VP:List (FuncId×Sg):=(92,⟨[(true,Wj)],[(false,.bool)],BL⟩)::VO
theorem X5:TabOK Tryz.prog (AC pu VP):=AF X4 oW
theorem nV (x:AG [(true,T4),(false,(.int .i64))]):Ac Tryz.prog (AC pu VP) (AI []) 3000 60 169 [(true,T4),(false,(.int .i64))] [(false,(.int .i64))] x=Ek x:=by kernel_rfl
def VQ:List (FuncId×Sg):=(169,⟨[(true,T4),(false,(.int .i64))],[(false,(.int .i64))],Ek⟩)::VP
theorem X6:TabOK Tryz.prog (AC pu VQ):=AF X5 nV
end Go.Proofs.YthpkjfabdccpdaaGreat.Pt
