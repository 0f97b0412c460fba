/- The evaluator comes to each of the plain functions. No condition. -/
import Derived.Test.YthpkjfabdccpdaaGreatPt2
set_option linter.all false
namespace Go.Proofs.YthpkjfabdccpdaaGreat.Pt
open Go Go.Proofs.YthpkjfabdccpdaaGreat.Sv Go.Proofs.YthpkjfabdccpdaaGreat.Pl
set_option maxRecDepth 1000000
set_option linter.unusedVariables false
def kB:List (Nat×Nat×Nat×An):=[(254,6,13,.loop { keep:=[0,15,11,9,17,13,8,16,12,10,14],kb:=[],pl:=[.slot 3 false (.int .i64),.slot 2 false (.int .i64),.slot 18 false (.int .i64)],ex:=[(.ret,[]),(.exit 1,[])],pay:=.unit })]
theorem mS (x:AG [(false,(.sl false (.sl true T2)))]):AZ Tryz.prog (AC pu cL) (AH kB) 3000 60 254 [(false,(.sl false (.sl true T2)))] [(false,(.int .i64)),(false,(.int .i64))] x=DS x:=by kernel_rfl
def cN:List (FuncId×Sg):=(254,⟨[(false,(.sl false (.sl true T2)))],[(false,(.int .i64)),(false,(.int .i64))],DS⟩)::cL
theorem cO:TabOK Tryz.prog (AC pu cN):=AF cM mS
theorem mT (x:AG [(false,.bool)]):AZ Tryz.prog (AC pu cN) (AH []) 3000 60 243 [(false,.bool)] [(true,PP)] x=CY x:=by kernel_rfl
def cQ:List (FuncId×Sg):=(243,⟨[(false,.bool)],[(true,PP)],CY⟩)::cN
theorem cR:TabOK Tryz.prog (AC pu cQ):=AF cO mT
theorem mU:LP Tryz.prog (λf => !pu f) 1000 100 268=true:=by kernel_rfl
theorem mV (a:Ty.den (.sl true T2)) (l:List (Ty.den (.sl true T2))):AZ Tryz.prog (AC pu cQ) (AH []) 3000 60 268 [(false,(.sl false (.sl true T2)))] [(false,(.sl false (.sl true T2)))] (a::l)=Ai (a::l):=by kernel_rfl
def cS:List (FuncId×Sg):=(268,⟨[(false,(.sl false (.sl true T2)))],[(false,(.sl false (.sl true T2)))],Ai⟩)::cQ
theorem cU:TabOK Tryz.prog (AC pu cS):=MH (gg:=false) (c:=(.sl true T2)) cR mU rfl mV
theorem mW:NB Tryz.prog (λf => !pu f) 1000 100 268=true:=by kernel_rfl
theorem mX (a:Ty.den (.sl true T2)) (l:List (Ty.den (.sl true T2))):OY Tryz.prog (AC pu cS) (AH []) 3000 60 268 [(false,(.sl false (.sl true T2)))] false (.sl true T2) (a::l)=Ai (a::l):=by kernel_rfl
def cV:List (FuncId×Sg):=(268+Fu,⟨[(false,(.sl false (.sl true T2)))],[(false,(.sl false (.sl true T2)))],Ai⟩)::cS
theorem cW:TabOK Tryz.prog (AC pu cV):=MI (gg:=false) (c:=(.sl true T2)) cU mW rfl (λa l y h=>MJ h) mX
theorem mY (x:AG [(false,(.sl true T2)),(false,(.int .i64))]):AZ Tryz.prog (AC pu cV) (AH []) 3000 60 272 [(false,(.sl true T2)),(false,(.int .i64))] [(true,T5)] x=BI x:=by kernel_rfl
def cX:List (FuncId×Sg):=(272,⟨[(false,(.sl true T2)),(false,(.int .i64))],[(true,T5)],BI⟩)::cV
theorem cY:TabOK Tryz.prog (AC pu cX):=AF cW mY
theorem mZ (x:AG [(true,T5)]):AZ Tryz.prog (AC pu cX) (AH []) 3000 60 289 [(true,T5)] [(false,.bool)] x=DG x:=by kernel_rfl
def cZ:List (FuncId×Sg):=(289,⟨[(true,T5)],[(false,.bool)],DG⟩)::cX
theorem ca:TabOK Tryz.prog (AC pu cZ):=AF cY mZ
def kC:List (Nat×Nat×Nat×An):=[(291,2,22,.loop { keep:=[0,1,7,6],kb:=[],pl:=[.slot 4 false (.int .i64),.slot 8 false (.int .i64)],ex:=[(.ret,[]),(.exit 0,[])],pay:=.unit })]
theorem ma (x:AG [(false,(.sl true T5))]):AZ Tryz.prog (AC pu cZ) (AH kC) 3000 60 282 [(false,(.sl true T5))] [(false,(.int .i64))] x=DT x:=by kernel_rfl
def cb:List (FuncId×Sg):=(282,⟨[(false,(.sl true T5))],[(false,(.int .i64))],DT⟩)::cZ
theorem cc:TabOK Tryz.prog (AC pu cb):=AF ca ma
theorem mb:LP Tryz.prog (λf => !pu f) 1000 100 285=true:=by kernel_rfl
theorem mc (a:Ty.den T5) (l:List (Ty.den T5)):AZ Tryz.prog (AC pu cb) (AH []) 3000 60 285 [(false,(.sl true T5))] [(false,(.sl true T5))] (a::l)=Aj (a::l):=by kernel_rfl
def cd:List (FuncId×Sg):=(285,⟨[(false,(.sl true T5))],[(false,(.sl true T5))],Aj⟩)::cb
theorem cf:TabOK Tryz.prog (AC pu cd):=MH (gg:=true) (c:=T5) cc mb rfl mc
theorem md:NB Tryz.prog (λf => !pu f) 1000 100 285=true:=by kernel_rfl
theorem me (a:Ty.den T5) (l:List (Ty.den T5)):OY Tryz.prog (AC pu cd) (AH []) 3000 60 285 [(false,(.sl true T5))] true T5 (a::l)=Aj (a::l):=by kernel_rfl
def cg:List (FuncId×Sg):=(285+Fu,⟨[(false,(.sl true T5))],[(false,(.sl true T5))],Aj⟩)::cd
theorem cj:TabOK Tryz.prog (AC pu cg):=MI (gg:=true) (c:=T5) cf md rfl (λa l y h=>MJ h) me
def kD:List (Nat×Nat×Nat×An):=[(283,6,26,.loop { keep:=[0,3,15,23,11,19,17,13,21,2,4,16,24,12,20,6,10,18,14,22],kb:=[0,7],pl:=[.slot 7 false (.int .i64),.srow 5 false (.int .i64) true,.box 20 [.ow true T5 false,.ow false (.int .i64) true,.lf (.int .i64)]],ex:=[(.exit 0,[])],pay:=.unit })]
theorem mf (x:AG [(false,(.sl true T5))]):AZ Tryz.prog (AC pu cg) (AH kD) 3000 60 283 [(false,(.sl true T5))] [(true,T7)] x=E1 x:=by kernel_rfl
def ck:List (FuncId×Sg):=(283,⟨[(false,(.sl true T5))],[(true,T7)],E1⟩)::cg
theorem cm:TabOK Tryz.prog (AC pu ck):=AF cj mf
theorem mg (x:AG [(false,(.sl true T5))]):AZ Tryz.prog (AC pu ck) (AH []) 3000 60 273 [(false,(.sl true T5))] [(true,T7),(false,(.int .i64))] x=CR x:=by kernel_rfl
def cp:List (FuncId×Sg):=(273,⟨[(false,(.sl true T5))],[(true,T7),(false,(.int .i64))],CR⟩)::ck
theorem cq:TabOK Tryz.prog (AC pu cp):=AF cm mg
def kF:List (Nat×Nat×Nat×An):=[(256,3,47,.loop { keep:=[0,1,11,13,4,12,10,14],kb:=[0,39,27,13,30],pl:=[.slot 15 false (.int .i64),.srow 5 true T5 true],ex:=[(.exit 0,[])],pay:=.unit })]
theorem mh (x:AG [(false,(.sl false (.sl true T2))),(false,.bool)]):AZ Tryz.prog (AC pu cp) (AH kF) 3000 60 220 [(false,(.sl false (.sl true T2))),(false,.bool)] [(true,IK),(false,(.int .i64)),(false,(.int .i64))] x=Ef x:=by kernel_rfl
def cr:List (FuncId×Sg):=(220,⟨[(false,(.sl false (.sl true T2))),(false,.bool)],[(true,IK),(false,(.int .i64)),(false,(.int .i64))],Ef⟩)::cp
theorem cu:TabOK Tryz.prog (AC pu cr):=AF cq mh
theorem mi (x:AG [(true,T4),(false,(.int .i64)),(false,.bool)]):AZ Tryz.prog (AC pu cr) (AH []) 3000 60 182 [(true,T4),(false,(.int .i64)),(false,.bool)] [(true,IL)] x=CS x:=by kernel_rfl
def cv:List (FuncId×Sg):=(182,⟨[(true,T4),(false,(.int .i64)),(false,.bool)],[(true,IL)],CS⟩)::cr
theorem cw:TabOK Tryz.prog (AC pu cv):=AF cu mi
def kG:List (Nat×Nat×Nat×An):=[(256,3,8,.loop { keep:=[0,1,11,13,4,10,14],kb:=[0],pl:=[.slot 15 false (.int .i64),.srow 5 true T5 true],ex:=[(.exit 0,[])],pay:=.unit })]
theorem mj (x:AG [(false,(.sl false (.sl true T2))),(false,(.sl false (.int .i64)))]):AZ Tryz.prog (AC pu cv) (AH kG) 3000 60 256 [(false,(.sl false (.sl true T2))),(false,(.sl false (.int .i64)))] [(true,T7)] x=F9 x:=by kernel_rfl
def cx:List (FuncId×Sg):=(1048832,⟨[(false,(.sl false (.sl true T2))),(false,(.sl false (.int .i64)))],[(true,T7)],F9⟩)::cv
theorem cy:TabOK Tryz.prog (AC pu cx):=AF cw mj
end Go.Proofs.YthpkjfabdccpdaaGreat.Pt
