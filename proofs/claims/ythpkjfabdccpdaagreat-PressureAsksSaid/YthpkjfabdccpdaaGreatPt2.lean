/- The evaluator comes to each of the plain functions. No condition. -/
import Derived.Test.YthpkjfabdccpdaaGreatPt1
set_option linter.all false
namespace Go.Proofs.YthpkjfabdccpdaaGreat.Pt
open Go Go.Proofs.YthpkjfabdccpdaaGreat.Sv Go.Proofs.YthpkjfabdccpdaaGreat.Pl
set_option maxRecDepth 1000000
set_option linter.unusedVariables false
theorem m8:Oq Tryz.prog (λf => !pu f) 1000 100 285=true:=by kernel_rfl
theorem m9 (a:Ty.den T5) (l:List (Ty.den T5)):P4 Tryz.prog (AC pu bn) (AI []) 3000 60 285 [(false,(.sl true T5))] true T5 (a::l)=Aj (a::l):=by kernel_rfl
def bp:List (FuncId×Sg):=(285+HI,⟨[(false,(.sl true T5))],[(false,(.sl true T5))],Aj⟩)::bn
theorem bq:TabOK Tryz.prog (AC pu bp):=Ot (gg:=true) (c:=T5) bo m8 rfl (λa l y h=>Ou h) m9
def ka:List (Nat×Nat×Nat×An):=[(283,6,26,.loop { keep:=[0,3,15,23,11,19,17,13,21,2,4,16,24,12,20,6,10,18,14,22],kb:=[0,7],pl:=[.slot 7 false (.int .i64),.srow 5 false (.int .i64) true,.box 20 [.ow true T5 false,.ow false (.int .i64) true,.lf (.int .i64)]],ex:=[(.exit 0,[])],pay:=.unit })]
theorem nA (x:AG [(false,(.sl true T5))]):Ab Tryz.prog (AC pu bp) (AI ka) 3000 60 283 [(false,(.sl true T5))] [(true,T7)] x=E5 x:=by kernel_rfl
def bu:List (FuncId×Sg):=(283,⟨[(false,(.sl true T5))],[(true,T7)],E5⟩)::bp
theorem bw:TabOK Tryz.prog (AC pu bu):=AE bq nA
theorem nB (x:AG [(false,(.sl true T5))]):Ab Tryz.prog (AC pu bu) (AI []) 3000 60 273 [(false,(.sl true T5))] [(true,T7),(false,(.int .i64))] x=CN x:=by kernel_rfl
def bx:List (FuncId×Sg):=(273,⟨[(false,(.sl true T5))],[(true,T7),(false,(.int .i64))],CN⟩)::bu
theorem bz:TabOK Tryz.prog (AC pu bx):=AE bw nB
def kc:List (Nat×Nat×Nat×An):=[(256,3,47,.loop { keep:=[0,1,11,13,4,12,10,14],kb:=[0,39,27,13,30],pl:=[.slot 15 false (.int .i64),.srow 5 true T5 true],ex:=[(.exit 0,[])],pay:=.unit })]
theorem nC (x:AG [(false,(.sl false (.sl true T2))),(false,.bool)]):Ab Tryz.prog (AC pu bx) (AI kc) 3000 60 220 [(false,(.sl false (.sl true T2))),(false,.bool)] [(true,IR),(false,(.int .i64)),(false,(.int .i64))] x=Eg x:=by kernel_rfl
def cA:List (FuncId×Sg):=(220,⟨[(false,(.sl false (.sl true T2))),(false,.bool)],[(true,IR),(false,(.int .i64)),(false,(.int .i64))],Eg⟩)::bx
theorem cB:TabOK Tryz.prog (AC pu cA):=AE bz nC
theorem nD (x:AG [(true,T4),(false,(.int .i64)),(false,.bool)]):Ab Tryz.prog (AC pu cA) (AI []) 3000 60 182 [(true,T4),(false,(.int .i64)),(false,.bool)] [(true,Rp)] x=CO x:=by kernel_rfl
def cC:List (FuncId×Sg):=(182,⟨[(true,T4),(false,(.int .i64)),(false,.bool)],[(true,Rp)],CO⟩)::cA
theorem cD:TabOK Tryz.prog (AC pu cC):=AE cB nD
def ke:List (Nat×Nat×Nat×An):=[(256,3,8,.loop { keep:=[0,1,11,13,4,10,14],kb:=[0],pl:=[.slot 15 false (.int .i64),.srow 5 true T5 true],ex:=[(.exit 0,[])],pay:=.unit })]
theorem nE (x:AG [(false,(.sl false (.sl true T2))),(false,(.sl false (.int .i64)))]):Ab Tryz.prog (AC pu cC) (AI ke) 3000 60 256 [(false,(.sl false (.sl true T2))),(false,(.sl false (.int .i64)))] [(true,T7)] x=F6 x:=by kernel_rfl
def cE:List (FuncId×Sg):=(1048832,⟨[(false,(.sl false (.sl true T2))),(false,(.sl false (.int .i64)))],[(true,T7)],F6⟩)::cC
theorem cF:TabOK Tryz.prog (AC pu cE):=AE cD nE
def kg:List (Nat×Nat×Nat×An):=[(224,4,9,.loop { keep:=[0,1,7,11,9,8,12,6,10],kb:=[],pl:=[.slot 13 false (.int .i64),.slot 4 false .bool],ex:=[(.ret,[]),(.exit 0,[])],pay:=.unit })]
theorem nF (x:AG [(false,(.sl true T5)),(false,(.sl true T5))]):Ab Tryz.prog (AC pu cE) (AI kg) 3000 60 224 [(false,(.sl true T5)),(false,(.sl true T5))] [(false,.bool)] x=Ak x:=by kernel_rfl
def cG:List (FuncId×Sg):=(224,⟨[(false,(.sl true T5)),(false,(.sl true T5))],[(false,.bool)],Ak⟩)::cE
theorem cI:TabOK Tryz.prog (AC pu cG):=AE cF nF
def kh:List (Nat×Nat×Nat×An):=[(223,4,9,.loop { keep:=[0,1,7,11,9,8,12,6,10],kb:=[],pl:=[.slot 13 false (.int .i64),.slot 4 false .bool],ex:=[(.ret,[]),(.exit 0,[])],pay:=.unit })]
theorem nG (x:AG [(false,(.sl false (.int .i64))),(false,(.sl false (.int .i64)))]):Ab Tryz.prog (AC pu cG) (AI kh) 3000 60 223 [(false,(.sl false (.int .i64))),(false,(.sl false (.int .i64)))] [(false,.bool)] x=Af x:=by kernel_rfl
def cJ:List (FuncId×Sg):=(223,⟨[(false,(.sl false (.int .i64))),(false,(.sl false (.int .i64)))],[(false,.bool)],Af⟩)::cG
theorem cK:TabOK Tryz.prog (AC pu cJ):=AE cI nG
theorem nH (x:AG [(true,T7),(true,T7)]):Ab Tryz.prog (AC pu cJ) (AI []) 3000 60 255 [(true,T7),(true,T7)] [(false,.bool)] x=EK x:=by kernel_rfl
def cL:List (FuncId×Sg):=(255,⟨[(true,T7),(true,T7)],[(false,.bool)],EK⟩)::cJ
theorem cM:TabOK Tryz.prog (AC pu cL):=AE cK nH
def ki:List (Nat×Nat×Nat×An):=[(284,8,25,.loop { keep:=[0,1,15,23,11,19,5,9,17,25,21,4,8,16,24,12,20,10,18,26,14,22],kb:=[0,19],pl:=[.slot 3 false (.int .i64),.slot 27 false (.int .i64),.slot 2 false (.int .i64)],ex:=[(.ret,[]),(.exit 0,[])],pay:=.unit })]
theorem nI (x:AG [(true,T7)]):Ab Tryz.prog (AC pu cL) (AI ki) 3000 60 284 [(true,T7)] [(false,(.int .i64)),(false,(.int .i64))] x=FI x:=by kernel_rfl
def cN:List (FuncId×Sg):=(284,⟨[(true,T7)],[(false,(.int .i64)),(false,(.int .i64))],FI⟩)::cL
theorem cO:TabOK Tryz.prog (AC pu cN):=AE cM nI
theorem nJ (x:AG [(true,T7)]):Ab Tryz.prog (AC pu cN) (AI []) 3000 60 274 [(true,T7)] [(false,(.int .i64))] x=E6 x:=by kernel_rfl
def cQ:List (FuncId×Sg):=(274,⟨[(true,T7)],[(false,(.int .i64))],E6⟩)::cN
theorem cR:TabOK Tryz.prog (AC pu cQ):=AE cO nJ
theorem nK (x:AG [(true,T7)]):Ab Tryz.prog (AC pu cQ) (AI []) 3000 60 257 [(true,T7)] [(false,(.int .i64)),(false,.str),(false,(.int .i64))] x=CT x:=by kernel_rfl
def cS:List (FuncId×Sg):=(257,⟨[(true,T7)],[(false,(.int .i64)),(false,.str),(false,(.int .i64))],CT⟩)::cQ
theorem cU:TabOK Tryz.prog (AC pu cS):=AE cR nK
theorem nL (x:AG [(false,.str)]):Ab Tryz.prog (AC pu cS) (AI []) 3000 60 275 [(false,.str)] [(false,.bool)] x=C3 x:=by kernel_rfl
def cV:List (FuncId×Sg):=(275,⟨[(false,.str)],[(false,.bool)],C3⟩)::cS
theorem cW:TabOK Tryz.prog (AC pu cV):=AE cU nL
theorem nM (x:AG [(false,.str),(false,.str)]):Ab Tryz.prog (AC pu cV) (AI []) 3000 60 259 [(false,.str),(false,.str)] [(false,(.int .i64))] x=CU x:=by kernel_rfl
def cX:List (FuncId×Sg):=(259,⟨[(false,.str),(false,.str)],[(false,(.int .i64))],CU⟩)::cV
theorem cY:TabOK Tryz.prog (AC pu cX):=AE cW nM
end Go.Proofs.YthpkjfabdccpdaaGreat.Pt
