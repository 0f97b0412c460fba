/- The evaluator comes to each of the plain functions. No condition. -/
import Derived.Test.YthpkjfabdccpdaaGreatPt3
set_option linter.all false
namespace Go.Proofs.YthpkjfabdccpdaaGreat.Pt
open Go Go.Proofs.YthpkjfabdccpdaaGreat.Sv Go.Proofs.YthpkjfabdccpdaaGreat.Pl
set_option maxRecDepth 1000000
set_option linter.unusedVariables false
theorem mM (x:AG [(true,T3)]):Ac Tryz.prog (AC pu cS) (AI []) 3000 60 109 [(true,T3)] [(false,(.int .i64)),(false,(.int .i64))] x=F3 x:=by kernel_rfl
def cV:List (FuncId×Sg):=(109,⟨[(true,T3)],[(false,(.int .i64)),(false,(.int .i64))],F3⟩)::cS
theorem cW:TabOK Tryz.prog (AC pu cV):=AF cU mM
theorem mN (x:AG [(true,T3),(false,(.int .i64))]):Ac Tryz.prog (AC pu cV) (AI []) 3000 60 172 [(true,T3),(false,(.int .i64))] [(false,(.int .i64))] x=C0 x:=by kernel_rfl
def cX:List (FuncId×Sg):=(172,⟨[(true,T3),(false,(.int .i64))],[(false,(.int .i64))],C0⟩)::cV
theorem cY:TabOK Tryz.prog (AC pu cX):=AF cW mN
def jv:List (Nat×Nat×Nat×An):=[(122,8,26,.loop { keep:=[0,1,15,23,11,19,27,5,17,25,13,21,29,16,24,12,20,28,18,26,14,22],kb:=[0],pl:=[.slot 3 false (.int .i64),.slot 2 false (.int .i64),.slot 4 false (.int .i64),.slot 30 false (.int .i64),.map 18 (.int .i64) false .bool],ex:=[(.exit 1,[])],pay:=.unit }),(122,14,44,.loop { keep:=[0,1,7,15,31,23,39,11,19,35,27,5,17,33,25,41,13,21,37,29,2,16,32,24,40,12,20,36,28,6,18,34,26,42,14,22,38,30],kb:=[0,30],pl:=[.slot 3 false (.int .i64),.slot 43 false (.int .i64),.slot 4 false (.int .i64),.map 18 (.int .i64) false .bool],ex:=[(.exit 1,[]),(.exit 3,[])],pay:=.unit })]
theorem mO (x:AG [(true,T4)]):Ac Tryz.prog (AC pu cX) (AI jv) 3000 60 122 [(true,T4)] [(false,(.int .i64)),(false,(.int .i64)),(false,(.int .i64))] x=C9 x:=by kernel_rfl
def cZ:List (FuncId×Sg):=(122,⟨[(true,T4)],[(false,(.int .i64)),(false,(.int .i64)),(false,(.int .i64))],C9⟩)::cX
theorem ca:TabOK Tryz.prog (AC pu cZ):=AF cY mO
def jw:List (Nat×Nat×Nat×An):=[(180,2,6,.loop { keep:=[0,1,7,9,8],kb:=[0],pl:=[.slot 2 false (.int .i64),.slot 10 false (.int .i64)],ex:=[(.exit 0,[])],pay:=.unit }),(180,5,15,.loop { keep:=[0,1,7,15,11,9,13,4,8,16,12,10,14],kb:=[0,9],pl:=[.slot 17 false (.int .i64),.slot 2 false (.int .i64)],ex:=[(.exit 2,[])],pay:=.unit })]
theorem mQ (x:AG [(true,T4)]):Ac Tryz.prog (AC pu cZ) (AI jw) 3000 60 180 [(true,T4)] [(false,(.int .i64))] x=EF x:=by kernel_rfl
def cb:List (FuncId×Sg):=(180,⟨[(true,T4)],[(false,(.int .i64))],EF⟩)::cZ
theorem cc:TabOK Tryz.prog (AC pu cb):=AF ca mQ
theorem mR (x:AG [(true,T4),(false,(.int .i64))]):Ac Tryz.prog (AC pu cb) (AI []) 3000 60 181 [(true,T4),(false,(.int .i64))] [(false,.bool)] x=C1 x:=by kernel_rfl
def cd:List (FuncId×Sg):=(181,⟨[(true,T4),(false,(.int .i64))],[(false,.bool)],C1⟩)::cb
theorem cf:TabOK Tryz.prog (AC pu cd):=AF cc mR
def jx:List (Nat×Nat×Nat×An):=[(254,6,13,.loop { keep:=[0,15,11,9,17,13,8,16,12,10,14],kb:=[],pl:=[.slot 3 false (.int .i64),.slot 2 false (.int .i64),.slot 18 false (.int .i64)],ex:=[(.ret,[]),(.exit 1,[])],pay:=.unit })]
theorem mS (x:AG [(false,(.sl false (.sl true T2)))]):Ac Tryz.prog (AC pu cd) (AI jx) 3000 60 254 [(false,(.sl false (.sl true T2)))] [(false,(.int .i64)),(false,(.int .i64))] x=DY x:=by kernel_rfl
def cg:List (FuncId×Sg):=(254,⟨[(false,(.sl false (.sl true T2)))],[(false,(.int .i64)),(false,(.int .i64))],DY⟩)::cd
theorem cj:TabOK Tryz.prog (AC pu cg):=AF cf mS
theorem mT (x:AG [(false,.bool)]):Ac Tryz.prog (AC pu cg) (AI []) 3000 60 243 [(false,.bool)] [(true,PN)] x=CY x:=by kernel_rfl
def ck:List (FuncId×Sg):=(243,⟨[(false,.bool)],[(true,PN)],CY⟩)::cg
theorem cm:TabOK Tryz.prog (AC pu ck):=AF cj mT
theorem mU:LJ Tryz.prog (λf => !pu f) 1000 100 268=true:=by kernel_rfl
theorem mV (a:Ty.den (.sl true T2)) (l:List (Ty.den (.sl true T2))):Ac Tryz.prog (AC pu ck) (AI []) 3000 60 268 [(false,(.sl false (.sl true T2)))] [(false,(.sl false (.sl true T2)))] (a::l)=Ah (a::l):=by kernel_rfl
def cp:List (FuncId×Sg):=(268,⟨[(false,(.sl false (.sl true T2)))],[(false,(.sl false (.sl true T2)))],Ah⟩)::ck
theorem cq:TabOK Tryz.prog (AC pu cp):=MF (gg:=false) (c:=(.sl true T2)) cm mU rfl mV
theorem mW:NB Tryz.prog (λf => !pu f) 1000 100 268=true:=by kernel_rfl
theorem mX (a:Ty.den (.sl true T2)) (l:List (Ty.den (.sl true T2))):OZ Tryz.prog (AC pu cp) (AI []) 3000 60 268 [(false,(.sl false (.sl true T2)))] false (.sl true T2) (a::l)=Ah (a::l):=by kernel_rfl
def cr:List (FuncId×Sg):=(268+G2,⟨[(false,(.sl false (.sl true T2)))],[(false,(.sl false (.sl true T2)))],Ah⟩)::cp
theorem cu:TabOK Tryz.prog (AC pu cr):=MG (gg:=false) (c:=(.sl true T2)) cq mW rfl (λa l y h=>MH h) mX
theorem mY (x:AG [(false,(.sl true T2)),(false,(.int .i64))]):Ac Tryz.prog (AC pu cr) (AI []) 3000 60 272 [(false,(.sl true T2)),(false,(.int .i64))] [(true,T5)] x=BI x:=by kernel_rfl
def cv:List (FuncId×Sg):=(272,⟨[(false,(.sl true T2)),(false,(.int .i64))],[(true,T5)],BI⟩)::cr
theorem cw:TabOK Tryz.prog (AC pu cv):=AF cu mY
theorem mZ (x:AG [(true,T5)]):Ac Tryz.prog (AC pu cv) (AI []) 3000 60 289 [(true,T5)] [(false,.bool)] x=DN x:=by kernel_rfl
def cx:List (FuncId×Sg):=(289,⟨[(true,T5)],[(false,.bool)],DN⟩)::cv
theorem cy:TabOK Tryz.prog (AC pu cx):=AF cw mZ
def jy:List (Nat×Nat×Nat×An):=[(291,2,22,.loop { keep:=[0,1,7,6],kb:=[],pl:=[.slot 4 false (.int .i64),.slot 8 false (.int .i64)],ex:=[(.ret,[]),(.exit 0,[])],pay:=.unit })]
theorem ma (x:AG [(false,(.sl true T5))]):Ac Tryz.prog (AC pu cx) (AI jy) 3000 60 282 [(false,(.sl true T5))] [(false,(.int .i64))] x=DZ x:=by kernel_rfl
def cz:List (FuncId×Sg):=(282,⟨[(false,(.sl true T5))],[(false,(.int .i64))],DZ⟩)::cx
theorem c0:TabOK Tryz.prog (AC pu cz):=AF cy ma
theorem mb:LJ Tryz.prog (λf => !pu f) 1000 100 285=true:=by kernel_rfl
theorem mc (a:Ty.den T5) (l:List (Ty.den T5)):Ac Tryz.prog (AC pu cz) (AI []) 3000 60 285 [(false,(.sl true T5))] [(false,(.sl true T5))] (a::l)=Ai (a::l):=by kernel_rfl
def dA:List (FuncId×Sg):=(285,⟨[(false,(.sl true T5))],[(false,(.sl true T5))],Ai⟩)::cz
theorem dB:TabOK Tryz.prog (AC pu dA):=MF (gg:=true) (c:=T5) c0 mb rfl mc
theorem md:NB Tryz.prog (λf => !pu f) 1000 100 285=true:=by kernel_rfl
theorem me (a:Ty.den T5) (l:List (Ty.den T5)):OZ Tryz.prog (AC pu dA) (AI []) 3000 60 285 [(false,(.sl true T5))] true T5 (a::l)=Ai (a::l):=by kernel_rfl
def dC:List (FuncId×Sg):=(285+G2,⟨[(false,(.sl true T5))],[(false,(.sl true T5))],Ai⟩)::dA
theorem dD:TabOK Tryz.prog (AC pu dC):=MG (gg:=true) (c:=T5) dB md rfl (λa l y h=>MH h) me
end Go.Proofs.YthpkjfabdccpdaaGreat.Pt
