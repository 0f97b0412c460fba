/- The evaluator comes to each of the plain functions. No condition. -/
import Derived.Test.YthpkjfabdccpdaaGreatPt6
set_option linter.all false
namespace Go.Proofs.YthpkjfabdccpdaaGreat.Pt
open Go Go.Proofs.YthpkjfabdccpdaaGreat.Sv Go.Proofs.YthpkjfabdccpdaaGreat.Pl
set_option maxRecDepth 1000000
set_option linter.unusedVariables false
theorem mW (x:AG [(true,E5),(false,(.int .i64)),(false,(.int .i64))]):Aa Tryz.prog (AB pu dX) (AH []) 3000 60 100 [(true,E5),(false,(.int .i64)),(false,(.int .i64))] [(true,E5),(false,(.int .i64)),(false,(.int .i64))] x=Jl x:=by kernel_rfl
def dZ:List (FuncId×Sg):=(100,⟨[(true,E5),(false,(.int .i64)),(false,(.int .i64))],[(true,E5),(false,(.int .i64)),(false,(.int .i64))],Jl⟩)::dX
theorem da:TabOK Tryz.prog (AB pu dZ):=AE dY mW
def jR:List (Nat×Nat×Nat×An):=[(171,5,30,.loop { keep:=[0,1,3,7,15,31,23,11,19,27,9,17,25,13,21,29,2,16,32,24,12,20,28,6,10,18,26,14,22,30],kb:=[0,1,12,10],pl:=[.slot 8 false (.int .i64)],ex:=[(.exit 0,[])],pay:=.unit })]
theorem mX (x:AG [(true,T4),(false,(.int .i64)),(false,(.sl true T3))]):Aa Tryz.prog (AB pu dZ) (AH jR) 3000 60 171 [(true,T4),(false,(.int .i64)),(false,(.sl true T3))] [(true,T4)] x=DQ x:=by kernel_rfl
def db:List (FuncId×Sg):=(171,⟨[(true,T4),(false,(.int .i64)),(false,(.sl true T3))],[(true,T4)],DQ⟩)::dZ
theorem de:TabOK Tryz.prog (AB pu db):=AE da mX
theorem np (x:AG [(true,T4),(false,(.int .i64))]):Aa Tryz.prog (AB pu db) (AH []) 3000 60 91 [(true,T4),(false,(.int .i64))] [(true,T4),(false,(.sl true T3)),(false,(.int .i64))] x=F8 x:=by kernel_rfl
def Ua:List (FuncId×Sg):=(91,⟨[(true,T4),(false,(.int .i64))],[(true,T4),(false,(.sl true T3)),(false,(.int .i64))],F8⟩)::db
theorem XL:TabOK Tryz.prog (AB pu Ua):=AE de np
def mY:List (Nat×Nat×Nat×An):=[(199,1,31,.loop { keep:=[0,1,7,8,6],kb:=[0,1,25,21,26],pl:=[.slot 9 false (.int .i64),.box 2 [.lf (.int .i64),.ow true (.sl true T3) false],.box 3 [.lf (.int .i64)]],ex:=[(.exit 0,[(26,0,none)]),(.ret,[(26,2,some .ret)])],pay:=.unit }),(199,4,41,.loop { keep:=[0,1,7,15,11,9,13,4,8,16,12,6,10,14],kb:=[0,1,3,25,21,34,26],pl:=[.slot 5 false (.int .i64),.box 2 [.lf (.int .i64),.ow true (.sl true T3) false]],ex:=[(.exit 2,[(26,0,none)])],pay:=.unit }),(199,4,42,.loop { keep:=[0,1,7,15,11,9,13,4,8,16,12,6,10,14],kb:=[0,1,35,25,21,26],pl:=[.slot 5 false (.int .i64),.box 2 [.lf (.int .i64),.ow true (.sl true T3) false],.box 3 [.lf (.int .i64)]],ex:=[(.exit 2,[(26,0,none)]),(.ret,[(26,2,some .ret)])],pay:=.unit })]
theorem nq (x:AG [(true,T4),(false,(.int .i64)),(true,T3)]):Aa Tryz.prog (AB pu Ua) (AH mY) 3000 60 93 [(true,T4),(false,(.int .i64)),(true,T3)] [(true,T4),(false,(.int .i64))] x=Bi x:=by kernel_rfl
def Ub:List (FuncId×Sg):=(93,⟨[(true,T4),(false,(.int .i64)),(true,T3)],[(true,T4),(false,(.int .i64))],Bi⟩)::Ua
theorem XM:TabOK Tryz.prog (AB pu Ub):=AE XL nq
theorem mZ (x:AG [(true,T4),(false,(.int .i64))]):Aa Tryz.prog (AB pu Ub) (AH []) 3000 60 173 [(true,T4),(false,(.int .i64))] [(true,JA),(false,(.int .i64))] x=F9 x:=by kernel_rfl
def Uc:List (FuncId×Sg):=(173,⟨[(true,T4),(false,(.int .i64))],[(true,JA),(false,(.int .i64))],F9⟩)::Ub
theorem XN:TabOK Tryz.prog (AB pu Uc):=AE XM mZ
def ma:List (Nat×Nat×Nat×An):=[(94,3,10,.loop { keep:=[0,1,3,19,5,9,21,2,4,8,20,10,22],kb:=[0,1,2],pl:=[.slot 23 false (.int .i64),.map 4 (.int .i64) true JA],ex:=[(.exit 0,[])],pay:=.unit }),(94,10,22,.loop { keep:=[0,1,3,23,39,19,35,5,33,13,21,37,2,4,8,32,20,36,10,34,22,38],kb:=[0,1,4],pl:=[.slot 9 false (.int .i64),.slot 40 false (.int .i64),.box 2 [.lf (.int .i64),.ow true (.sl true T3) false,.ow true JA false,.lf (.int .i64)],.box 16 [.lf (.int .i64),.lf (.sl true (.sl true T3)),.ow true JA false,.lf (.int .i64)]],ex:=[(.exit 2,[]),(.ret,[])],pay:=.unit })]
theorem nr (x:AG [(true,E5),(true,T4),(false,(.int .i64)),(false,(.int .i64))]):Aa Tryz.prog (AB pu Uc) (AH ma) 3000 60 94 [(true,E5),(true,T4),(false,(.int .i64)),(false,(.int .i64))] [(true,E5),(false,(.int .i64))] x=BD x:=by kernel_rfl
def Ud:List (FuncId×Sg):=(94,⟨[(true,E5),(true,T4),(false,(.int .i64)),(false,(.int .i64))],[(true,E5),(false,(.int .i64))],BD⟩)::Uc
theorem XO:TabOK Tryz.prog (AB pu Ud):=AE XN nr
theorem ns (x:AG [(true,E5),(false,(.int .i64))]):Aa Tryz.prog (AB pu Ud) (AH []) 3000 60 24 [(true,E5),(false,(.int .i64))] [(true,E5),(false,(.int .i64))] x=GA x:=by kernel_rfl
def Ue:List (FuncId×Sg):=(24,⟨[(true,E5),(false,(.int .i64))],[(true,E5),(false,(.int .i64))],GA⟩)::Ud
theorem XP:TabOK Tryz.prog (AB pu Ue):=AE XO ns
theorem nu (x:AG [(true,E5),(false,(.int .i64))]):Aa Tryz.prog (AB pu Ue) (AH []) 3000 60 27 [(true,E5),(false,(.int .i64))] [(true,E5),(false,.bool),(false,(.int .i64))] x=GB x:=by kernel_rfl
def Uf:List (FuncId×Sg):=(27,⟨[(true,E5),(false,(.int .i64))],[(true,E5),(false,.bool),(false,(.int .i64))],GB⟩)::Ue
theorem XQ:TabOK Tryz.prog (AB pu Uf):=AE XP nu
theorem nv (x:AG [(true,E5),(false,(.int .i64))]):Aa Tryz.prog (AB pu Uf) (AH []) 3000 60 31 [(true,E5),(false,(.int .i64))] [(false,(.int .i64)),(false,(.int .i64))] x=GW x:=by kernel_rfl
def Ug:List (FuncId×Sg):=(31,⟨[(true,E5),(false,(.int .i64))],[(false,(.int .i64)),(false,(.int .i64))],GW⟩)::Uf
theorem XR:TabOK Tryz.prog (AB pu Ug):=AE XQ nv
def jS:List (Nat×Nat×Nat×An):=[(219,1,35,.loop { keep:=[0,1,7,5,6],kb:=[0,29,18,30],pl:=[.slot 8 false (.int .i64),.box 26 [.ow false (.int .i64) false]],ex:=[(.exit 0,[(30,0,none)])],pay:=.unit })]
theorem mb (x:AG [(true,E5)]):Aa Tryz.prog (AB pu Ug) (AH jS) 3000 60 105 [(true,E5)] [(false,(.sl false (.int .i64))),(false,(.int .i64))] x=HS x:=by kernel_rfl
def Uh:List (FuncId×Sg):=(105,⟨[(true,E5)],[(false,(.sl false (.int .i64))),(false,(.int .i64))],HS⟩)::Ug
theorem XS:TabOK Tryz.prog (AB pu Uh):=AE XR mb
def mc:List (Nat×Nat×Nat×An):=[(33,8,21,.loop { keep:=[0,1,15,23,11,19,17,13,21,4,16,24,12,20,10,14,22],kb:=[0],pl:=[.slot 3 false (.int .i64),.slot 5 false .bool,.slot 25 false (.int .i64),.slot 2 false (.int .i64)],ex:=[(.ret,[]),(.exit 1,[])],pay:=.unit })]
theorem ny (x:AG [(true,E5)]):Aa Tryz.prog (AB pu Uh) (AH mc) 3000 60 33 [(true,E5)] [(false,(.int .i64)),(false,(.int .i64))] x=HT x:=by kernel_rfl
def Ui:List (FuncId×Sg):=(33,⟨[(true,E5)],[(false,(.int .i64)),(false,(.int .i64))],HT⟩)::Uh
theorem XT:TabOK Tryz.prog (AB pu Ui):=AE XS ny
def md:List (Nat×Nat×Nat×An):=[(23,3,10,.loop { keep:=[1,15,17,2,16,18,14],kb:=[],pl:=[.slot 0 false .bool,.slot 3 false (.int .i64),.box 6 [.lf (.int .i64),.lf (.sl true (.sl true T3)),.lf (.sl true JA),.lf (.int .i64)]],ex:=[(.exit 0,[]),(.ret,[])],pay:=.unit }),(23,1003003,10,.join { keep:=[0,1,3,15,17,2,16,18,14],kb:=[6],pl0:=[],pl1:=[.slot 24 false .bool],ex:=[(.exit 0,[])],pay:=.unit }),(23,1005008,10,.join { keep:=[1,3,15,17,2,16,18,14],kb:=[],pl0:=[.slot 0 false .bool,.box 6 [.lf (.int .i64),.lf (.sl true (.sl true T3)),.lf (.sl true JA),.lf (.int .i64)]],pl1:=[.slot 0 false .bool,.box 6 [.lf (.int .i64),.lf (.sl true (.sl true T3)),.lf (.sl true JA),.lf (.int .i64)]],ex:=[(.ret,[])],pay:=.unit }),(23,1006006,20,.join { keep:=[0,1,3,15,31,27,5,17,29,2,4,16,32,28,6,18,14,30],kb:=[16,6],pl0:=[],pl1:=[.slot 37 false .bool],ex:=[],pay:=.unit }),(23,1011011,27,.join { keep:=[0,1,3,7,15,47,39,11,43,9,17,49,41,45,2,8,16,48,40,44,10,18,42,14,46],kb:=[23,6],pl0:=[],pl1:=[.slot 67 false .bool],ex:=[],pay:=.unit })]
theorem nz (x:AG []):Aa Tryz.prog (AB pu Ui) (AH md) 3000 60 23 [] [(false,.bool)] x=EI x:=by kernel_rfl
def Uj:List (FuncId×Sg):=(23,⟨[],[(false,.bool)],EI⟩)::Ui
theorem XU:TabOK Tryz.prog (AB pu Uj):=AE XT nz
theorem oA (x:AG [(true,E5),(false,(.sl true T2))]):Aa Tryz.prog (AB pu Uj) (AH []) 3000 60 36 [(true,E5),(false,(.sl true T2))] [(true,E5),(false,(.int .i64))] x=Dj x:=by kernel_rfl
def Uk:List (FuncId×Sg):=(36,⟨[(true,E5),(false,(.sl true T2))],[(true,E5),(false,(.int .i64))],Dj⟩)::Uj
theorem XV:TabOK Tryz.prog (AB pu Uk):=AE XU oA
def jT:List (Nat×Nat×Nat×An):=[(233,4,7,.loop { keep:=[0,1,7,9,8,6,10],kb:=[],pl:=[.slot 5 false (.int .i64),.slot 4 false .bool],ex:=[(.ret,[]),(.exit 0,[])],pay:=.unit })]
theorem me (x:AG [(false,(.sl false (.int .i64))),(false,(.sl false (.int .i64)))]):Aa Tryz.prog (AB pu Uk) (AH jT) 3000 60 233 [(false,(.sl false (.int .i64))),(false,(.sl false (.int .i64)))] [(false,.bool)] x=F1 x:=by kernel_rfl
def Ul:List (FuncId×Sg):=(233,⟨[(false,(.sl false (.int .i64))),(false,(.sl false (.int .i64)))],[(false,.bool)],F1⟩)::Uk
theorem XW:TabOK Tryz.prog (AB pu Ul):=AE XV me
end Go.Proofs.YthpkjfabdccpdaaGreat.Pt
