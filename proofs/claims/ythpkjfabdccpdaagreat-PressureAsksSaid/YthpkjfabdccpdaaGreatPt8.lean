/- The evaluator comes to each of the plain functions. No condition. -/
import Derived.Test.YthpkjfabdccpdaaGreatPt7
set_option linter.all false
namespace Go.Proofs.YthpkjfabdccpdaaGreat.Pt
open Go Go.Proofs.YthpkjfabdccpdaaGreat.Sv Go.Proofs.YthpkjfabdccpdaaGreat.Pl
set_option maxRecDepth 1000000
set_option linter.unusedVariables false
def lQ:List (Nat×Nat×Nat×An):=[(113,4,11,.loop { keep:=[0,1,3,7,11,9,2,4,8,10],kb:=[0],pl:=[.slot 5 false (.int .i64),.slot 6 false (.int .i64)],ex:=[(.exit 0,[])],pay:=.unit })]
theorem o4 (x:AG [(true,T4)]):Ab Tryz.prog (AC pu VG) (AI lQ) 3000 60 113 [(true,T4)] [(false,(.int .i64))] x=Cu x:=by kernel_rfl
def VH:List (FuncId×Sg):=(113,⟨[(true,T4)],[(false,(.int .i64))],Cu⟩)::VG
theorem YL:TabOK Tryz.prog (AC pu VH):=AE YK o4
def lR:List (Nat×Nat×Nat×An):=[(114,3,4,.loop { keep:=[0,1,2],kb:=[0],pl:=[.srow 3 false (.int .i64) false,.slot 4 false (.int .i64)],ex:=[(.exit 0,[])],pay:=.unit })]
theorem o5 (x:AG [(true,T4)]):Ab Tryz.prog (AC pu VH) (AI lR) 3000 60 114 [(true,T4)] [(false,(.sl false (.int .i64)))] x=Dr x:=by kernel_rfl
def VI:List (FuncId×Sg):=(114,⟨[(true,T4)],[(false,(.sl false (.int .i64)))],Dr⟩)::VH
theorem YM:TabOK Tryz.prog (AC pu VI):=AE YL o5
theorem o6 (x:AG [(true,T4),(false,(.int .i64))]):Ab Tryz.prog (AC pu VI) (AI []) 3000 60 186 [(true,T4),(false,(.int .i64))] [(false,(.int .i64))] x=Hl x:=by kernel_rfl
def VJ:List (FuncId×Sg):=(186,⟨[(true,T4),(false,(.int .i64))],[(false,(.int .i64))],Hl⟩)::VI
theorem YN:TabOK Tryz.prog (AC pu VJ):=AE YM o6
theorem o7 (x:AG [(true,T4),(false,(.int .i64))]):Ab Tryz.prog (AC pu VJ) (AI []) 3000 60 189 [(true,T4),(false,(.int .i64))] [(false,.bool),(false,(.int .i64))] x=Gu x:=by kernel_rfl
def VK:List (FuncId×Sg):=(189,⟨[(true,T4),(false,(.int .i64))],[(false,.bool),(false,(.int .i64))],Gu⟩)::VJ
theorem YO:TabOK Tryz.prog (AC pu VK):=AE YN o7
theorem o8 (x:AG [(true,T4),(false,(.int .i64))]):Ab Tryz.prog (AC pu VK) (AI []) 3000 60 115 [(true,T4),(false,(.int .i64))] [(false,.bool)] x=B9 x:=by kernel_rfl
def VM:List (FuncId×Sg):=(115,⟨[(true,T4),(false,(.int .i64))],[(false,.bool)],B9⟩)::VK
theorem YP:TabOK Tryz.prog (AC pu VM):=AE YO o8
def lS:List (Nat×Nat×Nat×An):=[(231,6,9,.loop { keep:=[0,7,11,9,8,12,10],kb:=[],pl:=[.slot 3 false (.int .i64),.slot 2 false (.int .i64),.slot 4 false (.int .i64)],ex:=[(.ret,[]),(.exit 0,[])],pay:=.unit })]
theorem o9 (x:AG [(false,(.sl false (.sl true T2)))]):Ab Tryz.prog (AC pu VM) (AI lS) 3000 60 231 [(false,(.sl false (.sl true T2)))] [(false,(.int .i64)),(false,(.int .i64))] x=DS x:=by kernel_rfl
def VN:List (FuncId×Sg):=(231,⟨[(false,(.sl false (.sl true T2)))],[(false,(.int .i64)),(false,(.int .i64))],DS⟩)::VM
theorem YQ:TabOK Tryz.prog (AC pu VN):=AE YP o9
def lT:List (Nat×Nat×Nat×An):=[(269,6,8,.loop { keep:=[0,7,5,9,4,8,6],kb:=[],pl:=[.slot 3 false (.int .i64),.slot 2 false (.int .i64)],ex:=[(.ret,[]),(.exit 0,[])],pay:=.unit })]
theorem pA (x:AG [(false,(.sl true T5))]):Ab Tryz.prog (AC pu VN) (AI lT) 3000 60 269 [(false,(.sl true T5))] [(false,(.int .i64))] x=FL x:=by kernel_rfl
def VO:List (FuncId×Sg):=(269,⟨[(false,(.sl true T5))],[(false,(.int .i64))],FL⟩)::VN
theorem YR:TabOK Tryz.prog (AC pu VO):=AE YQ pA
theorem pB (x:AG [(false,(.sl true T5)),(false,(.int .i64)),(false,(.int .i64))]):Ab Tryz.prog (AC pu VO) (AI []) 3000 60 287 [(false,(.sl true T5)),(false,(.int .i64)),(false,(.int .i64))] [(false,.bool)] x=E7 x:=by kernel_rfl
def VP:List (FuncId×Sg):=(287,⟨[(false,(.sl true T5)),(false,(.int .i64)),(false,(.int .i64))],[(false,.bool)],E7⟩)::VO
theorem YS:TabOK Tryz.prog (AC pu VP):=AE YR pB
theorem pC (r:AG [(false,(.sl true T5)),(false,(.int .i64))]->Option (AG [(false,(.int .i64)),(false,(.int .i64))])) (x:AG [(false,(.sl true T5)),(false,(.int .i64))]):Ab Tryz.prog (AC pu ((281,⟨[(false,(.sl true T5)),(false,(.int .i64))],[(false,(.int .i64)),(false,(.int .i64))],r⟩)::VP)) (AI []) 3000 60 281 [(false,(.sl true T5)),(false,(.int .i64))] [(false,(.int .i64)),(false,(.int .i64))] x=As r x:=by kernel_rfl
def VQ:List (FuncId×Sg):=(281,⟨[(false,(.sl true T5)),(false,(.int .i64))],[(false,(.int .i64)),(false,(.int .i64))],J2 (α:=AG [(false,(.sl true T5)),(false,(.int .i64))]) (β:=AG [(false,(.int .i64)),(false,(.int .i64))]) As 100⟩)::VP
theorem YT:TabOK Tryz.prog (AC pu VQ):=gh YS pC (by rfl) (by rfl) 100
def lU:List (Nat×Nat×Nat×An):=[(270,3,11,.loop { keep:=[0,3,5,9,2,8,6],kb:=[0],pl:=[.slot 4 false (.int .i64),.box 8 [.ow true T5 false,.ow false (.int .i64) true,.lf (.int .i64)]],ex:=[(.exit 0,[])],pay:=.unit })]
theorem pD (x:AG [(false,(.sl true T5))]):Ab Tryz.prog (AC pu VQ) (AI lU) 3000 60 270 [(false,(.sl true T5))] [(true,T7)] x=GF x:=by kernel_rfl
def VS:List (FuncId×Sg):=(270,⟨[(false,(.sl true T5))],[(true,T7)],GF⟩)::VQ
theorem YU:TabOK Tryz.prog (AC pu VS):=AE YT pD
theorem pE (x:AG [(false,(.sl true T5))]):Ab Tryz.prog (AC pu VS) (AI []) 3000 60 250 [(false,(.sl true T5))] [(true,T7),(false,(.int .i64))] x=EM x:=by kernel_rfl
def VT:List (FuncId×Sg):=(250,⟨[(false,(.sl true T5))],[(true,T7),(false,(.int .i64))],EM⟩)::VS
theorem YV:TabOK Tryz.prog (AC pu VT):=AE YU pE
def lV:List (Nat×Nat×Nat×An):=[(230,4,12,.loop { keep:=[0,1,15,11,5,9,13,4,12,10,14],kb:=[0,3,8,6],pl:=[.slot 7 false (.int .i64),.srow 6 true T5 false],ex:=[(.exit 0,[])],pay:=.unit })]
theorem pF (x:AG [(false,(.sl false (.sl true T2))),(false,(.sl false (.int .i64)))]):Ab Tryz.prog (AC pu VT) (AI lV) 3000 60 230 [(false,(.sl false (.sl true T2))),(false,(.sl false (.int .i64)))] [(true,T9)] x=Cp x:=by kernel_rfl
def VU:List (FuncId×Sg):=(230,⟨[(false,(.sl false (.sl true T2))),(false,(.sl false (.int .i64)))],[(true,T9)],Cp⟩)::VT
theorem YW:TabOK Tryz.prog (AC pu VU):=AE YV pF
theorem pG (x:AG [(false,(.sl false (.sl true T2)))]):Ab Tryz.prog (AC pu VU) (AI []) 3000 60 226 [(false,(.sl false (.sl true T2)))] [(true,T9),(false,(.int .i64)),(false,(.int .i64))] x=Gv x:=by kernel_rfl
def VV:List (FuncId×Sg):=(226,⟨[(false,(.sl false (.sl true T2)))],[(true,T9),(false,(.int .i64)),(false,(.int .i64))],Gv⟩)::VU
theorem YX:TabOK Tryz.prog (AC pu VV):=AE YW pG
theorem pH (x:AG [(false,.bool)]):Ab Tryz.prog (AC pu VV) (AI []) 3000 60 227 [(false,.bool)] [(true,PJ)] x=Cq x:=by kernel_rfl
def VW:List (FuncId×Sg):=(227,⟨[(false,.bool)],[(true,PJ)],Cq⟩)::VV
theorem YY:TabOK Tryz.prog (AC pu VW):=AE YX pH
end Go.Proofs.YthpkjfabdccpdaaGreat.Pt
