/- The evaluator comes to each of the plain functions. No condition. -/
import Derived.Test.YthpkjfabdccpdaaGreatPt1
set_option linter.all false
namespace Go.Proofs.YthpkjfabdccpdaaGreat.Pt
open Go Go.Proofs.YthpkjfabdccpdaaGreat.Sv Go.Proofs.YthpkjfabdccpdaaGreat.Pl
set_option maxRecDepth 1000000
set_option linter.unusedVariables false
def j7:List (Nat×Nat×Nat×An):=[(230,4,12,.loop { keep:=[0,1,15,11,5,9,13,4,12,10,14],kb:=[0,3,8,6],pl:=[.slot 7 false (.int .i64),.srow 6 true T5 false],ex:=[(.exit 0,[])],pay:=.unit })]
theorem mD (x:AG [(false,(.sl false (.sl true T2))),(false,(.sl false (.int .i64)))]):AZ Tryz.prog (AC pu bX) (AH j7) 3000 60 230 [(false,(.sl false (.sl true T2))),(false,(.sl false (.int .i64)))] [(true,T9)] x=Cv x:=by kernel_rfl
def bZ:List (FuncId×Sg):=(230,⟨[(false,(.sl false (.sl true T2))),(false,(.sl false (.int .i64)))],[(true,T9)],Cv⟩)::bX
theorem ba:TabOK Tryz.prog (AC pu bZ):=AF bY mD
theorem mE (x:AG [(false,(.sl false (.sl true T2)))]):AZ Tryz.prog (AC pu bZ) (AH []) 3000 60 226 [(false,(.sl false (.sl true T2)))] [(true,T9),(false,(.int .i64)),(false,(.int .i64))] x=Gu x:=by kernel_rfl
def bc:List (FuncId×Sg):=(226,⟨[(false,(.sl false (.sl true T2)))],[(true,T9),(false,(.int .i64)),(false,(.int .i64))],Gu⟩)::bZ
theorem bf:TabOK Tryz.prog (AC pu bc):=AF ba mE
theorem mF (x:AG [(false,.bool)]):AZ Tryz.prog (AC pu bc) (AH []) 3000 60 227 [(false,.bool)] [(true,PP)] x=Cw x:=by kernel_rfl
def bg:List (FuncId×Sg):=(227,⟨[(false,.bool)],[(true,PP)],Cw⟩)::bc
theorem bh:TabOK Tryz.prog (AC pu bg):=AF bf mF
theorem mG (x:AG [(false,(.sl false (.sl true T2))),(false,.bool)]):AZ Tryz.prog (AC pu bg) (AH []) 3000 60 190 [(false,(.sl false (.sl true T2))),(false,.bool)] [(true,IK),(false,(.int .i64)),(false,(.int .i64))] x=FP x:=by kernel_rfl
def bj:List (FuncId×Sg):=(190,⟨[(false,(.sl false (.sl true T2))),(false,.bool)],[(true,IK),(false,(.int .i64)),(false,(.int .i64))],FP⟩)::bg
theorem bm:TabOK Tryz.prog (AC pu bj):=AF bh mG
theorem mH (x:AG [(true,T4),(false,(.int .i64)),(false,.bool)]):AZ Tryz.prog (AC pu bj) (AH []) 3000 60 116 [(true,T4),(false,(.int .i64)),(false,.bool)] [(true,IL)] x=Ap x:=by kernel_rfl
def bn:List (FuncId×Sg):=(116,⟨[(true,T4),(false,(.int .i64)),(false,.bool)],[(true,IL)],Ap⟩)::bj
theorem bo:TabOK Tryz.prog (AC pu bn):=AF bm mH
def mI:List (Nat×Nat×Nat×An):=[(86,7,25,.loop { keep:=[0,1,3,7,15,23,11,5,17,25,13,21,2,4,8,16,24,12,20,6,10,26,14,22],kb:=[0,1],pl:=[.slot 9 false (.int .i64),.box 19 [.lf (.int .i64),.lf (.sl true (.sl true T3)),.ow true IL false,.lf (.int .i64)]],ex:=[(.exit 0,[])],pay:=.unit })]
theorem pF (x:AG [(true,T4)]):AZ Tryz.prog (AC pu bn) (AH mI) 3000 60 86 [(true,T4)] [(true,C9),(false,(.int .i64))] x=La x:=by kernel_rfl
def bp:List (FuncId×Sg):=(86,⟨[(true,T4)],[(true,C9),(false,(.int .i64))],La⟩)::bn
theorem bq:TabOK Tryz.prog (AC pu bp):=AF bo pF
theorem mJ (x:AG [(false,.str)]):AZ Tryz.prog (AC pu bp) (AH []) 3000 60 235 [(false,.str)] [(false,(.int .i64))] x=E0 x:=by kernel_rfl
def bu:List (FuncId×Sg):=(235,⟨[(false,.str)],[(false,(.int .i64))],E0⟩)::bp
theorem bw:TabOK Tryz.prog (AC pu bu):=AF bq mJ
theorem mK (x:AG [(true,T2)]):AZ Tryz.prog (AC pu bu) (AH []) 3000 60 204 [(true,T2)] [(false,(.int .i64))] x=CJ x:=by kernel_rfl
def bx:List (FuncId×Sg):=(204,⟨[(true,T2)],[(false,(.int .i64))],CJ⟩)::bu
theorem bz:TabOK Tryz.prog (AC pu bx):=AF bw mK
def j8:List (Nat×Nat×Nat×An):=[(184,4,8,.loop { keep:=[0,7,11,9,8,10],kb:=[],pl:=[.slot 3 false (.int .i64),.slot 2 false (.int .i64),.slot 12 false (.int .i64)],ex:=[(.ret,[]),(.exit 0,[])],pay:=.unit })]
theorem mL (x:AG [(false,(.sl true T2))]):AZ Tryz.prog (AC pu bx) (AH j8) 3000 60 184 [(false,(.sl true T2))] [(false,(.int .i64)),(false,(.int .i64))] x=BQ x:=by kernel_rfl
def cA:List (FuncId×Sg):=(184,⟨[(false,(.sl true T2))],[(false,(.int .i64)),(false,(.int .i64))],BQ⟩)::bx
theorem cB:TabOK Tryz.prog (AC pu cA):=AF bz mL
theorem mM (x:AG [(true,T3)]):AZ Tryz.prog (AC pu cA) (AH []) 3000 60 109 [(true,T3)] [(false,(.int .i64)),(false,(.int .i64))] x=F8 x:=by kernel_rfl
def cC:List (FuncId×Sg):=(109,⟨[(true,T3)],[(false,(.int .i64)),(false,(.int .i64))],F8⟩)::cA
theorem cD:TabOK Tryz.prog (AC pu cC):=AF cB mM
theorem mN (x:AG [(true,T3),(false,(.int .i64))]):AZ Tryz.prog (AC pu cC) (AH []) 3000 60 172 [(true,T3),(false,(.int .i64))] [(false,(.int .i64))] x=Ct x:=by kernel_rfl
def cE:List (FuncId×Sg):=(172,⟨[(true,T3),(false,(.int .i64))],[(false,(.int .i64))],Ct⟩)::cC
theorem cF:TabOK Tryz.prog (AC pu cE):=AF cD mN
def j9:List (Nat×Nat×Nat×An):=[(122,8,26,.loop { keep:=[0,1,15,23,11,19,27,5,17,25,13,21,29,16,24,12,20,28,18,26,14,22],kb:=[0],pl:=[.slot 3 false (.int .i64),.slot 2 false (.int .i64),.slot 4 false (.int .i64),.slot 30 false (.int .i64),.map 18 (.int .i64) false .bool],ex:=[(.exit 1,[])],pay:=.unit }),(122,14,44,.loop { keep:=[0,1,7,15,31,23,39,11,19,35,27,5,17,33,25,41,13,21,37,29,2,16,32,24,40,12,20,36,28,6,18,34,26,42,14,22,38,30],kb:=[0,30],pl:=[.slot 3 false (.int .i64),.slot 43 false (.int .i64),.slot 4 false (.int .i64),.map 18 (.int .i64) false .bool],ex:=[(.exit 1,[]),(.exit 3,[])],pay:=.unit })]
theorem mO (x:AG [(true,T4)]):AZ Tryz.prog (AC pu cE) (AH j9) 3000 60 122 [(true,T4)] [(false,(.int .i64)),(false,(.int .i64)),(false,(.int .i64))] x=C2 x:=by kernel_rfl
def cG:List (FuncId×Sg):=(122,⟨[(true,T4)],[(false,(.int .i64)),(false,(.int .i64)),(false,(.int .i64))],C2⟩)::cE
theorem cI:TabOK Tryz.prog (AC pu cG):=AF cF mO
def kA:List (Nat×Nat×Nat×An):=[(180,2,6,.loop { keep:=[0,1,7,9,8],kb:=[0],pl:=[.slot 2 false (.int .i64),.slot 10 false (.int .i64)],ex:=[(.exit 0,[])],pay:=.unit }),(180,5,15,.loop { keep:=[0,1,7,15,11,9,13,4,8,16,12,10,14],kb:=[0,9],pl:=[.slot 17 false (.int .i64),.slot 2 false (.int .i64)],ex:=[(.exit 2,[])],pay:=.unit })]
theorem mQ (x:AG [(true,T4)]):AZ Tryz.prog (AC pu cG) (AH kA) 3000 60 180 [(true,T4)] [(false,(.int .i64))] x=EE x:=by kernel_rfl
def cJ:List (FuncId×Sg):=(180,⟨[(true,T4)],[(false,(.int .i64))],EE⟩)::cG
theorem cK:TabOK Tryz.prog (AC pu cJ):=AF cI mQ
theorem mR (x:AG [(true,T4),(false,(.int .i64))]):AZ Tryz.prog (AC pu cJ) (AH []) 3000 60 181 [(true,T4),(false,(.int .i64))] [(false,.bool)] x=Cu x:=by kernel_rfl
def cL:List (FuncId×Sg):=(181,⟨[(true,T4),(false,(.int .i64))],[(false,.bool)],Cu⟩)::cJ
theorem cM:TabOK Tryz.prog (AC pu cL):=AF cK mR
end Go.Proofs.YthpkjfabdccpdaaGreat.Pt
