/- The evaluator comes to each of the plain functions. No condition. -/
import Derived.Test.YthpkjfabdccpdaaGreatPt3
set_option linter.all false
namespace Go.Proofs.YthpkjfabdccpdaaGreat.Pt
open Go Go.Proofs.YthpkjfabdccpdaaGreat.Sv Go.Proofs.YthpkjfabdccpdaaGreat.Pl
set_option maxRecDepth 1000000
set_option linter.unusedVariables false
def kH:List (Nat×Nat×Nat×An):=[(224,4,9,.loop { keep:=[0,1,7,11,9,8,12,6,10],kb:=[],pl:=[.slot 13 false (.int .i64),.slot 4 false .bool],ex:=[(.ret,[]),(.exit 0,[])],pay:=.unit })]
theorem ml (x:AG [(false,(.sl true T5)),(false,(.sl true T5))]):AZ Tryz.prog (AC pu cx) (AH kH) 3000 60 224 [(false,(.sl true T5)),(false,(.sl true T5))] [(false,.bool)] x=Ak x:=by kernel_rfl
def cz:List (FuncId×Sg):=(224,⟨[(false,(.sl true T5)),(false,(.sl true T5))],[(false,.bool)],Ak⟩)::cx
theorem c0:TabOK Tryz.prog (AC pu cz):=AF cy ml
def kI:List (Nat×Nat×Nat×An):=[(223,4,9,.loop { keep:=[0,1,7,11,9,8,12,6,10],kb:=[],pl:=[.slot 13 false (.int .i64),.slot 4 false .bool],ex:=[(.ret,[]),(.exit 0,[])],pay:=.unit })]
theorem mo (x:AG [(false,(.sl false (.int .i64))),(false,(.sl false (.int .i64)))]):AZ Tryz.prog (AC pu cz) (AH kI) 3000 60 223 [(false,(.sl false (.int .i64))),(false,(.sl false (.int .i64)))] [(false,.bool)] x=Ae x:=by kernel_rfl
def dA:List (FuncId×Sg):=(223,⟨[(false,(.sl false (.int .i64))),(false,(.sl false (.int .i64)))],[(false,.bool)],Ae⟩)::cz
theorem dB:TabOK Tryz.prog (AC pu dA):=AF c0 mo
theorem mq (x:AG [(true,T7),(true,T7)]):AZ Tryz.prog (AC pu dA) (AH []) 3000 60 255 [(true,T7),(true,T7)] [(false,.bool)] x=EN x:=by kernel_rfl
def dC:List (FuncId×Sg):=(255,⟨[(true,T7),(true,T7)],[(false,.bool)],EN⟩)::dA
theorem dD:TabOK Tryz.prog (AC pu dC):=AF dB mq
def kJ:List (Nat×Nat×Nat×An):=[(284,8,25,.loop { keep:=[0,1,15,23,11,19,5,9,17,25,21,4,8,16,24,12,20,10,18,26,14,22],kb:=[0,19],pl:=[.slot 3 false (.int .i64),.slot 27 false (.int .i64),.slot 2 false (.int .i64)],ex:=[(.ret,[]),(.exit 0,[])],pay:=.unit })]
theorem mr (x:AG [(true,T7)]):AZ Tryz.prog (AC pu dC) (AH kJ) 3000 60 284 [(true,T7)] [(false,(.int .i64)),(false,(.int .i64))] x=FL x:=by kernel_rfl
def dE:List (FuncId×Sg):=(284,⟨[(true,T7)],[(false,(.int .i64)),(false,(.int .i64))],FL⟩)::dC
theorem dF:TabOK Tryz.prog (AC pu dE):=AF dD mr
theorem mt (x:AG [(true,T7)]):AZ Tryz.prog (AC pu dE) (AH []) 3000 60 274 [(true,T7)] [(false,(.int .i64))] x=E2 x:=by kernel_rfl
def dG:List (FuncId×Sg):=(274,⟨[(true,T7)],[(false,(.int .i64))],E2⟩)::dE
theorem dH:TabOK Tryz.prog (AC pu dG):=AF dF mt
theorem mu (x:AG [(true,T7)]):AZ Tryz.prog (AC pu dG) (AH []) 3000 60 257 [(true,T7)] [(false,(.int .i64)),(false,.str),(false,(.int .i64))] x=CZ x:=by kernel_rfl
def dI:List (FuncId×Sg):=(257,⟨[(true,T7)],[(false,(.int .i64)),(false,.str),(false,(.int .i64))],CZ⟩)::dG
theorem dJ:TabOK Tryz.prog (AC pu dI):=AF dH mu
theorem mv (x:AG [(false,.str)]):AZ Tryz.prog (AC pu dI) (AH []) 3000 60 275 [(false,.str)] [(false,.bool)] x=C3 x:=by kernel_rfl
def dK:List (FuncId×Sg):=(275,⟨[(false,.str)],[(false,.bool)],C3⟩)::dI
theorem dL:TabOK Tryz.prog (AC pu dK):=AF dJ mv
theorem mw (x:AG [(false,.str),(false,.str)]):AZ Tryz.prog (AC pu dK) (AH []) 3000 60 259 [(false,.str),(false,.str)] [(false,(.int .i64))] x=Ca x:=by kernel_rfl
def dM:List (FuncId×Sg):=(259,⟨[(false,.str),(false,.str)],[(false,(.int .i64))],Ca⟩)::dK
theorem dN:TabOK Tryz.prog (AC pu dM):=AF dL mw
theorem my (x:AG [(false,(.int .i64))]):AZ Tryz.prog (AC pu dM) (AH []) 3000 60 276 [(false,(.int .i64))] [(false,.bool)] x=EF x:=by kernel_rfl
def dO:List (FuncId×Sg):=(276,⟨[(false,(.int .i64))],[(false,.bool)],EF⟩)::dM
theorem dQ:TabOK Tryz.prog (AC pu dO):=AF dN my
theorem mz (x:AG [(false,(.int .i64)),(false,(.int .i64))]):AZ Tryz.prog (AC pu dO) (AH []) 3000 60 260 [(false,(.int .i64)),(false,(.int .i64))] [(false,(.int .i64))] x=CG x:=by kernel_rfl
def dR:List (FuncId×Sg):=(260,⟨[(false,(.int .i64)),(false,(.int .i64))],[(false,(.int .i64))],CG⟩)::dO
theorem dS:TabOK Tryz.prog (AC pu dR):=AF dQ mz
def kK:List (Nat×Nat×Nat×An):=[(258,3,5,.loop { keep:=[0,3,7,6],kb:=[],pl:=[.slot 2 false (.int .i64),.slot 8 false (.int .i64)],ex:=[(.ret,[]),(.exit 0,[])],pay:=.unit })]
theorem m6 (x:AG [(false,(.sl false (.int .i64)))]):AZ Tryz.prog (AC pu dR) (AH kK) 3000 60 258 [(false,(.sl false (.int .i64)))] [(false,(.int .i64))] x=GA x:=by kernel_rfl
def dT:List (FuncId×Sg):=(258,⟨[(false,(.sl false (.int .i64)))],[(false,(.int .i64))],GA⟩)::dR
theorem dU:TabOK Tryz.prog (AC pu dT):=AF dS m6
def kL:List (Nat×Nat×Nat×An):=[(240,7,24,.loop { keep:=[0,1,15,31,23,19,27,5,17,25,13,29,4,16,24,12,28,18,26,14,22,30],kb:=[0],pl:=[.slot 3 false (.int .i64),.slot 2 false (.int .i64),.slot 32 false (.int .i64)],ex:=[(.ret,[]),(.exit 0,[])],pay:=.unit }),(240,18,49,.loop { keep:=[0,1,15,31,63,23,71,55,19,67,51,27,59,5,9,17,65,25,57,13,69,53,29,61,4,8,16,32,64,24,56,12,68,52,28,60,18,66,26,58,14,22,70,54,30,62],kb:=[0],pl:=[.slot 3 false (.int .i64),.slot 2 false (.int .i64),.slot 72 false (.int .i64)],ex:=[(.ret,[]),(.exit 2,[])],pay:=.unit })]
theorem m7 (x:AG [(true,T9)]):AZ Tryz.prog (AC pu dT) (AH kL) 3000 60 240 [(true,T9)] [(false,(.int .i64)),(false,(.int .i64))] x=DU x:=by kernel_rfl
def dV:List (FuncId×Sg):=(240,⟨[(true,T9)],[(false,(.int .i64)),(false,(.int .i64))],DU⟩)::dT
theorem dW:TabOK Tryz.prog (AC pu dV):=AF dU m7
theorem m8:LP Tryz.prog (λf => !pu f) 1000 100 278=true:=by kernel_rfl
theorem m9 (a:Ty.den (.int .i64)) (l:List (Ty.den (.int .i64))):AZ Tryz.prog (AC pu dV) (AH []) 3000 60 278 [(false,(.sl false (.int .i64)))] [(false,(.sl false (.int .i64)))] (a::l)=Ay (a::l):=by kernel_rfl
def dX:List (FuncId×Sg):=(278,⟨[(false,(.sl false (.int .i64)))],[(false,(.sl false (.int .i64)))],Ay⟩)::dV
theorem dY:TabOK Tryz.prog (AC pu dX):=MH (gg:=false) (c:=(.int .i64)) dW m8 rfl m9
theorem nA:NB Tryz.prog (λf => !pu f) 1000 100 278=true:=by kernel_rfl
theorem nB (a:Ty.den (.int .i64)) (l:List (Ty.den (.int .i64))):OY Tryz.prog (AC pu dX) (AH []) 3000 60 278 [(false,(.sl false (.int .i64)))] false (.int .i64) (a::l)=Ay (a::l):=by kernel_rfl
def dZ:List (FuncId×Sg):=(278+Fu,⟨[(false,(.sl false (.int .i64)))],[(false,(.sl false (.int .i64)))],Ay⟩)::dX
theorem da:TabOK Tryz.prog (AC pu dZ):=MI (gg:=false) (c:=(.int .i64)) dY nA rfl (λa l y h=>MJ h) nB
end Go.Proofs.YthpkjfabdccpdaaGreat.Pt
