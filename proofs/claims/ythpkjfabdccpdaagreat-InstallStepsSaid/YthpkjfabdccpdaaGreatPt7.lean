/- The evaluator comes to each of the plain functions. No condition. -/
import Derived.Test.YthpkjfabdccpdaaGreatPt6
set_option linter.all false
namespace Go.Proofs.YthpkjfabdccpdaaGreat.Pt
open Go Go.Proofs.YthpkjfabdccpdaaGreat.Sv Go.Proofs.YthpkjfabdccpdaaGreat.Pl
set_option maxRecDepth 1000000
set_option linter.unusedVariables false
theorem nj (x:AG [(true,C9),(false,(.int .i64)),(false,(.int .i64))]):AZ Tryz.prog (AC pu fB) (AH []) 3000 60 100 [(true,C9),(false,(.int .i64)),(false,(.int .i64))] [(true,C9),(false,(.int .i64)),(false,(.int .i64))] x=G3 x:=by kernel_rfl
def fD:List (FuncId×Sg):=(100,⟨[(true,C9),(false,(.int .i64)),(false,(.int .i64))],[(true,C9),(false,(.int .i64)),(false,(.int .i64))],G3⟩)::fB
theorem fE:TabOK Tryz.prog (AC pu fD):=AF fC nj
def kY:List (Nat×Nat×Nat×An):=[(171,5,30,.loop { keep:=[0,1,3,7,15,31,23,11,19,27,9,17,25,13,21,29,2,16,32,24,12,20,28,6,10,18,26,14,22,30],kb:=[0,1,12,10],pl:=[.slot 8 false (.int .i64)],ex:=[(.exit 0,[])],pay:=.unit })]
theorem nk (x:AG [(true,T4),(false,(.int .i64)),(false,(.sl true T3))]):AZ Tryz.prog (AC pu fD) (AH kY) 3000 60 171 [(true,T4),(false,(.int .i64)),(false,(.sl true T3))] [(true,T4)] x=Dd x:=by kernel_rfl
def fF:List (FuncId×Sg):=(171,⟨[(true,T4),(false,(.int .i64)),(false,(.sl true T3))],[(true,T4)],Dd⟩)::fD
theorem fG:TabOK Tryz.prog (AC pu fF):=AF fE nk
theorem pL (x:AG [(true,T4),(false,(.int .i64))]):AZ Tryz.prog (AC pu fF) (AH []) 3000 60 91 [(true,T4),(false,(.int .i64))] [(true,T4),(false,(.sl true T3)),(false,(.int .i64))] x=C5 x:=by kernel_rfl
def VB:List (FuncId×Sg):=(91,⟨[(true,T4),(false,(.int .i64))],[(true,T4),(false,(.sl true T3)),(false,(.int .i64))],C5⟩)::fF
theorem X3:TabOK Tryz.prog (AC pu VB):=AF fG pL
def nl:List (Nat×Nat×Nat×An):=[(199,1,31,.loop { keep:=[0,1,7,8,6],kb:=[0,1,25,21,26],pl:=[.slot 9 false (.int .i64),.box 2 [.lf (.int .i64),.ow true (.sl true T3) false],.box 3 [.lf (.int .i64)]],ex:=[(.exit 0,[(26,0,none)]),(.ret,[(26,2,some .ret)])],pay:=.unit }),(199,4,41,.loop { keep:=[0,1,7,15,11,9,13,4,8,16,12,6,10,14],kb:=[0,1,3,25,21,34,26],pl:=[.slot 5 false (.int .i64),.box 2 [.lf (.int .i64),.ow true (.sl true T3) false]],ex:=[(.exit 2,[(26,0,none)])],pay:=.unit }),(199,4,42,.loop { keep:=[0,1,7,15,11,9,13,4,8,16,12,6,10,14],kb:=[0,1,35,25,21,26],pl:=[.slot 5 false (.int .i64),.box 2 [.lf (.int .i64),.ow true (.sl true T3) false],.box 3 [.lf (.int .i64)]],ex:=[(.exit 2,[(26,0,none)]),(.ret,[(26,2,some .ret)])],pay:=.unit })]
theorem pM (x:AG [(true,T4),(false,(.int .i64)),(true,T3)]):AZ Tryz.prog (AC pu VB) (AH nl) 3000 60 93 [(true,T4),(false,(.int .i64)),(true,T3)] [(true,T4),(false,(.int .i64))] x=BT x:=by kernel_rfl
def VC:List (FuncId×Sg):=(93,⟨[(true,T4),(false,(.int .i64)),(true,T3)],[(true,T4),(false,(.int .i64))],BT⟩)::VB
theorem X4:TabOK Tryz.prog (AC pu VC):=AF X3 pM
theorem np (x:AG [(true,T4),(false,(.int .i64))]):AZ Tryz.prog (AC pu VC) (AH []) 3000 60 173 [(true,T4),(false,(.int .i64))] [(true,IL),(false,(.int .i64))] x=GP x:=by kernel_rfl
def VD:List (FuncId×Sg):=(173,⟨[(true,T4),(false,(.int .i64))],[(true,IL),(false,(.int .i64))],GP⟩)::VC
theorem X5:TabOK Tryz.prog (AC pu VD):=AF X4 np
def nq:List (Nat×Nat×Nat×An):=[(94,3,10,.loop { keep:=[0,1,3,19,5,9,21,2,4,8,20,10,22],kb:=[0,1,2],pl:=[.slot 23 false (.int .i64),.map 4 (.int .i64) true IL],ex:=[(.exit 0,[])],pay:=.unit }),(94,10,22,.loop { keep:=[0,1,3,23,39,19,35,5,33,13,21,37,2,4,8,32,20,36,10,34,22,38],kb:=[0,1,4],pl:=[.slot 9 false (.int .i64),.slot 40 false (.int .i64),.box 2 [.lf (.int .i64),.ow true (.sl true T3) false,.ow true IL false,.lf (.int .i64)],.box 16 [.lf (.int .i64),.lf (.sl true (.sl true T3)),.ow true IL false,.lf (.int .i64)]],ex:=[(.exit 2,[]),(.ret,[])],pay:=.unit })]
theorem pN (x:AG [(true,C9),(true,T4),(false,(.int .i64)),(false,(.int .i64))]):AZ Tryz.prog (AC pu VD) (AH nq) 3000 60 94 [(true,C9),(true,T4),(false,(.int .i64)),(false,(.int .i64))] [(true,C9),(false,(.int .i64))] x=A9 x:=by kernel_rfl
def VE:List (FuncId×Sg):=(94,⟨[(true,C9),(true,T4),(false,(.int .i64)),(false,(.int .i64))],[(true,C9),(false,(.int .i64))],A9⟩)::VD
theorem X6:TabOK Tryz.prog (AC pu VE):=AF X5 pN
theorem pO (x:AG [(true,C9),(false,(.int .i64))]):AZ Tryz.prog (AC pu VE) (AH []) 3000 60 24 [(true,C9),(false,(.int .i64))] [(true,C9),(false,(.int .i64))] x=Ck x:=by kernel_rfl
def VF:List (FuncId×Sg):=(24,⟨[(true,C9),(false,(.int .i64))],[(true,C9),(false,(.int .i64))],Ck⟩)::VE
theorem X7:TabOK Tryz.prog (AC pu VF):=AF X6 pO
theorem pP (x:AG [(true,C9),(false,(.int .i64))]):AZ Tryz.prog (AC pu VF) (AH []) 3000 60 27 [(true,C9),(false,(.int .i64))] [(true,C9),(false,.bool),(false,(.int .i64))] x=C6 x:=by kernel_rfl
def VG:List (FuncId×Sg):=(27,⟨[(true,C9),(false,(.int .i64))],[(true,C9),(false,.bool),(false,(.int .i64))],C6⟩)::VF
theorem X8:TabOK Tryz.prog (AC pu VG):=AF X7 pP
theorem pQ (x:AG [(true,C9),(false,(.int .i64))]):AZ Tryz.prog (AC pu VG) (AH []) 3000 60 31 [(true,C9),(false,(.int .i64))] [(false,(.int .i64)),(false,(.int .i64))] x=Du x:=by kernel_rfl
def VH:List (FuncId×Sg):=(31,⟨[(true,C9),(false,(.int .i64))],[(false,(.int .i64)),(false,(.int .i64))],Du⟩)::VG
theorem X9:TabOK Tryz.prog (AC pu VH):=AF X8 pQ
def kZ:List (Nat×Nat×Nat×An):=[(219,1,35,.loop { keep:=[0,1,7,5,6],kb:=[0,29,18,30],pl:=[.slot 8 false (.int .i64),.box 26 [.ow false (.int .i64) false]],ex:=[(.exit 0,[(30,0,none)])],pay:=.unit })]
theorem nr (x:AG [(true,C9)]):AZ Tryz.prog (AC pu VH) (AH kZ) 3000 60 105 [(true,C9)] [(false,(.sl false (.int .i64))),(false,(.int .i64))] x=Hj x:=by kernel_rfl
def VI:List (FuncId×Sg):=(105,⟨[(true,C9)],[(false,(.sl false (.int .i64))),(false,(.int .i64))],Hj⟩)::VH
theorem YA:TabOK Tryz.prog (AC pu VI):=AF X9 nr
def ns:List (Nat×Nat×Nat×An):=[(33,8,21,.loop { keep:=[0,1,15,23,11,19,17,13,21,4,16,24,12,20,10,14,22],kb:=[0],pl:=[.slot 3 false (.int .i64),.slot 5 false .bool,.slot 25 false (.int .i64),.slot 2 false (.int .i64)],ex:=[(.ret,[]),(.exit 1,[])],pay:=.unit })]
theorem pR (x:AG [(true,C9)]):AZ Tryz.prog (AC pu VI) (AH ns) 3000 60 33 [(true,C9)] [(false,(.int .i64)),(false,(.int .i64))] x=Hk x:=by kernel_rfl
def VJ:List (FuncId×Sg):=(33,⟨[(true,C9)],[(false,(.int .i64)),(false,(.int .i64))],Hk⟩)::VI
theorem YB:TabOK Tryz.prog (AC pu VJ):=AF YA pR
def nu:List (Nat×Nat×Nat×An):=[(23,3,10,.loop { keep:=[1,15,17,2,16,18,14],kb:=[],pl:=[.slot 0 false .bool,.slot 3 false (.int .i64),.box 6 [.lf (.int .i64),.lf (.sl true (.sl true T3)),.lf (.sl true IL),.lf (.int .i64)]],ex:=[(.exit 0,[]),(.ret,[])],pay:=.unit }),(23,1003003,10,.join { keep:=[0,1,3,15,17,2,16,18,14],kb:=[6],pl0:=[],pl1:=[.slot 24 false .bool],ex:=[(.exit 0,[])],pay:=.unit }),(23,1005008,10,.join { keep:=[1,3,15,17,2,16,18,14],kb:=[],pl0:=[.slot 0 false .bool,.box 6 [.lf (.int .i64),.lf (.sl true (.sl true T3)),.lf (.sl true IL),.lf (.int .i64)]],pl1:=[.slot 0 false .bool,.box 6 [.lf (.int .i64),.lf (.sl true (.sl true T3)),.lf (.sl true IL),.lf (.int .i64)]],ex:=[(.ret,[])],pay:=.unit }),(23,1006006,20,.join { keep:=[0,1,3,15,31,27,5,17,29,2,4,16,32,28,6,18,14,30],kb:=[16,6],pl0:=[],pl1:=[.slot 37 false .bool],ex:=[],pay:=.unit }),(23,1011011,27,.join { keep:=[0,1,3,7,15,47,39,11,43,9,17,49,41,45,2,8,16,48,40,44,10,18,42,14,46],kb:=[23,6],pl0:=[],pl1:=[.slot 67 false .bool],ex:=[],pay:=.unit })]
theorem pT (x:AG []):AZ Tryz.prog (AC pu VJ) (AH nu) 3000 60 23 [] [(false,.bool)] x=FW x:=by kernel_rfl
def VK:List (FuncId×Sg):=(23,⟨[],[(false,.bool)],FW⟩)::VJ
theorem YC:TabOK Tryz.prog (AC pu VK):=AF YB pT
def ka:List (Nat×Nat×Nat×An):=[(233,4,7,.loop { keep:=[0,1,7,9,8,6,10],kb:=[],pl:=[.slot 5 false (.int .i64),.slot 4 false .bool],ex:=[(.ret,[]),(.exit 0,[])],pay:=.unit })]
theorem nv (x:AG [(false,(.sl false (.int .i64))),(false,(.sl false (.int .i64)))]):AZ Tryz.prog (AC pu VK) (AH ka) 3000 60 233 [(false,(.sl false (.int .i64))),(false,(.sl false (.int .i64)))] [(false,.bool)] x=GI x:=by kernel_rfl
def VM:List (FuncId×Sg):=(233,⟨[(false,(.sl false (.int .i64))),(false,(.sl false (.int .i64)))],[(false,.bool)],GI⟩)::VK
theorem YD:TabOK Tryz.prog (AC pu VM):=AF YC nv
def kc:List (Nat×Nat×Nat×An):=[(234,4,26,.loop { keep:=[0,1,3,7,15,23,11,19,27,9,17,25,13,21,2,8,16,24,12,20,6,10,18,26,14,22],kb:=[0,1],pl:=[.slot 5 false (.int .i64),.slot 4 false .bool],ex:=[(.ret,[]),(.exit 0,[])],pay:=.unit })]
theorem ny (x:AG [(true,T7),(true,T7)]):AZ Tryz.prog (AC pu VM) (AH kc) 3000 60 234 [(true,T7),(true,T7)] [(false,.bool)] x=E5 x:=by kernel_rfl
def VN:List (FuncId×Sg):=(234,⟨[(true,T7),(true,T7)],[(false,.bool)],E5⟩)::VM
theorem YE:TabOK Tryz.prog (AC pu VN):=AF YD ny
end Go.Proofs.YthpkjfabdccpdaaGreat.Pt
