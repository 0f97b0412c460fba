/- The evaluator comes to each of the plain functions. No condition. -/
import Derived.Test.YthpkjfabdccpdaaGreatPt4
set_option linter.all false
namespace Go.Proofs.YthpkjfabdccpdaaGreat.Pt
open Go Go.Proofs.YthpkjfabdccpdaaGreat.Sv Go.Proofs.YthpkjfabdccpdaaGreat.Pl
set_option maxRecDepth 1000000
set_option linter.unusedVariables false
def jz:List (Nat×Nat×Nat×An):=[(283,6,26,.loop { keep:=[0,3,15,23,11,19,17,13,21,2,4,16,24,12,20,6,10,18,14,22],kb:=[0,7],pl:=[.slot 7 false (.int .i64),.srow 5 false (.int .i64) true,.box 20 [.ow true T5 false,.ow false (.int .i64) true,.lf (.int .i64)]],ex:=[(.exit 0,[])],pay:=.unit })]
theorem mf (x:AG [(false,(.sl true T5))]):Ac Tryz.prog (AC pu dC) (AI jz) 3000 60 283 [(false,(.sl true T5))] [(true,T7)] x=Ez x:=by kernel_rfl
def dE:List (FuncId×Sg):=(283,⟨[(false,(.sl true T5))],[(true,T7)],Ez⟩)::dC
theorem dF:TabOK Tryz.prog (AC pu dE):=AF dD mf
theorem mg (x:AG [(false,(.sl true T5))]):Ac Tryz.prog (AC pu dE) (AI []) 3000 60 273 [(false,(.sl true T5))] [(true,T7),(false,(.int .i64))] x=CU x:=by kernel_rfl
def dG:List (FuncId×Sg):=(273,⟨[(false,(.sl true T5))],[(true,T7),(false,(.int .i64))],CU⟩)::dE
theorem dH:TabOK Tryz.prog (AC pu dG):=AF dF mg
def j0:List (Nat×Nat×Nat×An):=[(256,3,47,.loop { keep:=[0,1,11,13,4,12,10,14],kb:=[0,39,27,13,30],pl:=[.slot 15 false (.int .i64),.srow 5 true T5 true],ex:=[(.exit 0,[])],pay:=.unit })]
theorem mh (x:AG [(false,(.sl false (.sl true T2))),(false,.bool)]):Ac Tryz.prog (AC pu dG) (AI j0) 3000 60 220 [(false,(.sl false (.sl true T2))),(false,.bool)] [(true,IE),(false,(.int .i64)),(false,(.int .i64))] x=Ec x:=by kernel_rfl
def dI:List (FuncId×Sg):=(220,⟨[(false,(.sl false (.sl true T2))),(false,.bool)],[(true,IE),(false,(.int .i64)),(false,(.int .i64))],Ec⟩)::dG
theorem dJ:TabOK Tryz.prog (AC pu dI):=AF dH mh
theorem mi (x:AG [(true,T4),(false,(.int .i64)),(false,.bool)]):Ac Tryz.prog (AC pu dI) (AI []) 3000 60 182 [(true,T4),(false,(.int .i64)),(false,.bool)] [(true,Lb)] x=CV x:=by kernel_rfl
def dK:List (FuncId×Sg):=(182,⟨[(true,T4),(false,(.int .i64)),(false,.bool)],[(true,Lb)],CV⟩)::dI
theorem dL:TabOK Tryz.prog (AC pu dK):=AF dJ mi
def j7:List (Nat×Nat×Nat×An):=[(256,3,8,.loop { keep:=[0,1,11,13,4,10,14],kb:=[0],pl:=[.slot 15 false (.int .i64),.srow 5 true T5 true],ex:=[(.exit 0,[])],pay:=.unit })]
theorem mj (x:AG [(false,(.sl false (.sl true T2))),(false,(.sl false (.int .i64)))]):Ac Tryz.prog (AC pu dK) (AI j7) 3000 60 256 [(false,(.sl false (.sl true T2))),(false,(.sl false (.int .i64)))] [(true,T7)] x=F4 x:=by kernel_rfl
def dM:List (FuncId×Sg):=(1048832,⟨[(false,(.sl false (.sl true T2))),(false,(.sl false (.int .i64)))],[(true,T7)],F4⟩)::dK
theorem dN:TabOK Tryz.prog (AC pu dM):=AF dL mj
def j8:List (Nat×Nat×Nat×An):=[(224,4,9,.loop { keep:=[0,1,7,11,9,8,12,6,10],kb:=[],pl:=[.slot 13 false (.int .i64),.slot 4 false .bool],ex:=[(.ret,[]),(.exit 0,[])],pay:=.unit })]
theorem ml (x:AG [(false,(.sl true T5)),(false,(.sl true T5))]):Ac Tryz.prog (AC pu dM) (AI j8) 3000 60 224 [(false,(.sl true T5)),(false,(.sl true T5))] [(false,.bool)] x=Aj x:=by kernel_rfl
def dO:List (FuncId×Sg):=(224,⟨[(false,(.sl true T5)),(false,(.sl true T5))],[(false,.bool)],Aj⟩)::dM
theorem dQ:TabOK Tryz.prog (AC pu dO):=AF dN ml
def j9:List (Nat×Nat×Nat×An):=[(223,4,9,.loop { keep:=[0,1,7,11,9,8,12,6,10],kb:=[],pl:=[.slot 13 false (.int .i64),.slot 4 false .bool],ex:=[(.ret,[]),(.exit 0,[])],pay:=.unit })]
theorem mo (x:AG [(false,(.sl false (.int .i64))),(false,(.sl false (.int .i64)))]):Ac Tryz.prog (AC pu dO) (AI j9) 3000 60 223 [(false,(.sl false (.int .i64))),(false,(.sl false (.int .i64)))] [(false,.bool)] x=Ad x:=by kernel_rfl
def dR:List (FuncId×Sg):=(223,⟨[(false,(.sl false (.int .i64))),(false,(.sl false (.int .i64)))],[(false,.bool)],Ad⟩)::dO
theorem dS:TabOK Tryz.prog (AC pu dR):=AF dQ mo
theorem mq (x:AG [(true,T7),(true,T7)]):Ac Tryz.prog (AC pu dR) (AI []) 3000 60 255 [(true,T7),(true,T7)] [(false,.bool)] x=EK x:=by kernel_rfl
def dT:List (FuncId×Sg):=(255,⟨[(true,T7),(true,T7)],[(false,.bool)],EK⟩)::dR
theorem dU:TabOK Tryz.prog (AC pu dT):=AF dS mq
def kA:List (Nat×Nat×Nat×An):=[(284,8,25,.loop { keep:=[0,1,15,23,11,19,5,9,17,25,21,4,8,16,24,12,20,10,18,26,14,22],kb:=[0,19],pl:=[.slot 3 false (.int .i64),.slot 27 false (.int .i64),.slot 2 false (.int .i64)],ex:=[(.ret,[]),(.exit 0,[])],pay:=.unit })]
theorem mr (x:AG [(true,T7)]):Ac Tryz.prog (AC pu dT) (AI kA) 3000 60 284 [(true,T7)] [(false,(.int .i64)),(false,(.int .i64))] x=FG x:=by kernel_rfl
def dV:List (FuncId×Sg):=(284,⟨[(true,T7)],[(false,(.int .i64)),(false,(.int .i64))],FG⟩)::dT
theorem dW:TabOK Tryz.prog (AC pu dV):=AF dU mr
theorem mt (x:AG [(true,T7)]):Ac Tryz.prog (AC pu dV) (AI []) 3000 60 274 [(true,T7)] [(false,(.int .i64))] x=E0 x:=by kernel_rfl
def dX:List (FuncId×Sg):=(274,⟨[(true,T7)],[(false,(.int .i64))],E0⟩)::dV
theorem dY:TabOK Tryz.prog (AC pu dX):=AF dW mt
theorem mu (x:AG [(true,T7)]):Ac Tryz.prog (AC pu dX) (AI []) 3000 60 257 [(true,T7)] [(false,(.int .i64)),(false,.str),(false,(.int .i64))] x=CZ x:=by kernel_rfl
def dZ:List (FuncId×Sg):=(257,⟨[(true,T7)],[(false,(.int .i64)),(false,.str),(false,(.int .i64))],CZ⟩)::dX
theorem da:TabOK Tryz.prog (AC pu dZ):=AF dY mu
theorem mv (x:AG [(false,.str)]):Ac Tryz.prog (AC pu dZ) (AI []) 3000 60 275 [(false,.str)] [(false,.bool)] x=DA x:=by kernel_rfl
def db:List (FuncId×Sg):=(275,⟨[(false,.str)],[(false,.bool)],DA⟩)::dZ
theorem de:TabOK Tryz.prog (AC pu db):=AF da mv
theorem mw (x:AG [(false,.str),(false,.str)]):Ac Tryz.prog (AC pu db) (AI []) 3000 60 259 [(false,.str),(false,.str)] [(false,(.int .i64))] x=Ca x:=by kernel_rfl
def dg:List (FuncId×Sg):=(259,⟨[(false,.str),(false,.str)],[(false,(.int .i64))],Ca⟩)::db
theorem dh:TabOK Tryz.prog (AC pu dg):=AF de mw
theorem my (x:AG [(false,(.int .i64))]):Ac Tryz.prog (AC pu dg) (AI []) 3000 60 276 [(false,(.int .i64))] [(false,.bool)] x=EG x:=by kernel_rfl
def di:List (FuncId×Sg):=(276,⟨[(false,(.int .i64))],[(false,.bool)],EG⟩)::dg
theorem dj:TabOK Tryz.prog (AC pu di):=AF dh my
end Go.Proofs.YthpkjfabdccpdaaGreat.Pt
