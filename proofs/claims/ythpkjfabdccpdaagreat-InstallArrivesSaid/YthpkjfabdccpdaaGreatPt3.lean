/- The evaluator comes to each of the plain functions. No condition. -/
import Derived.Test.YthpkjfabdccpdaaGreatPt2
set_option linter.all false
namespace Go.Proofs.YthpkjfabdccpdaaGreat.Pt
open Go Go.Proofs.YthpkjfabdccpdaaGreat.Sv Go.Proofs.YthpkjfabdccpdaaGreat.Pl
set_option maxRecDepth 1000000
set_option linter.unusedVariables false
def i6:List (Nat×Nat×Nat×An):=[(254,6,13,.loop { keep:=[0,15,11,9,17,13,8,16,12,10,14],kb:=[],pl:=[.slot 3 false (.int .i64),.slot 2 false (.int .i64),.slot 18 false (.int .i64)],ex:=[(.ret,[]),(.exit 1,[])],pay:=.unit })]
theorem lB (x:AG [(false,(.sl false (.sl true T2)))]):Aa Tryz.prog (AB pu ao) (AH i6) 3000 60 254 [(false,(.sl false (.sl true T2)))] [(false,(.int .i64)),(false,(.int .i64))] x=DE x:=by kernel_rfl
def aq:List (FuncId×Sg):=(254,⟨[(false,(.sl false (.sl true T2)))],[(false,(.int .i64)),(false,(.int .i64))],DE⟩)::ao
theorem au:TabOK Tryz.prog (AB pu aq):=AE ap lB
theorem lC (x:AG [(false,.bool)]):Aa Tryz.prog (AB pu aq) (AH []) 3000 60 243 [(false,.bool)] [(true,Om)] x=CN x:=by kernel_rfl
def aw:List (FuncId×Sg):=(243,⟨[(false,.bool)],[(true,Om)],CN⟩)::aq
theorem ax:TabOK Tryz.prog (AB pu aw):=AE au lC
theorem lD:K4 Tryz.prog (λf => !pu f) 1000 100 268=true:=by kernel_rfl
theorem lE (a:Ty.den (.sl true T2)) (l:List (Ty.den (.sl true T2))):Aa Tryz.prog (AB pu aw) (AH []) 3000 60 268 [(false,(.sl false (.sl true T2)))] [(false,(.sl false (.sl true T2)))] (a::l)=Af (a::l):=by kernel_rfl
def ay:List (FuncId×Sg):=(268,⟨[(false,(.sl false (.sl true T2)))],[(false,(.sl false (.sl true T2)))],Af⟩)::aw
theorem az:TabOK Tryz.prog (AB pu ay):=Lx (gg:=false) (c:=(.sl true T2)) ax lD rfl lE
theorem lF:Mj Tryz.prog (λf => !pu f) 1000 100 268=true:=by kernel_rfl
theorem lG (a:Ty.den (.sl true T2)) (l:List (Ty.den (.sl true T2))):N5 Tryz.prog (AB pu ay) (AH []) 3000 60 268 [(false,(.sl false (.sl true T2)))] false (.sl true T2) (a::l)=Af (a::l):=by kernel_rfl
def bA:List (FuncId×Sg):=(268+Fc,⟨[(false,(.sl false (.sl true T2)))],[(false,(.sl false (.sl true T2)))],Af⟩)::ay
theorem bB:TabOK Tryz.prog (AB pu bA):=Ly (gg:=false) (c:=(.sl true T2)) az lF rfl (λa l y h=>Lz h) lG
theorem lH (x:AG [(false,(.sl true T2)),(false,(.int .i64))]):Aa Tryz.prog (AB pu bA) (AH []) 3000 60 272 [(false,(.sl true T2)),(false,(.int .i64))] [(true,T5)] x=A9 x:=by kernel_rfl
def bC:List (FuncId×Sg):=(272,⟨[(false,(.sl true T2)),(false,(.int .i64))],[(true,T5)],A9⟩)::bA
theorem bD:TabOK Tryz.prog (AB pu bC):=AE bB lH
theorem lI (x:AG [(true,T5)]):Aa Tryz.prog (AB pu bC) (AH []) 3000 60 289 [(true,T5)] [(false,.bool)] x=C4 x:=by kernel_rfl
def bE:List (FuncId×Sg):=(289,⟨[(true,T5)],[(false,.bool)],C4⟩)::bC
theorem bF:TabOK Tryz.prog (AB pu bE):=AE bD lI
def i7:List (Nat×Nat×Nat×An):=[(291,2,22,.loop { keep:=[0,1,7,6],kb:=[],pl:=[.slot 4 false (.int .i64),.slot 8 false (.int .i64)],ex:=[(.ret,[]),(.exit 0,[])],pay:=.unit })]
theorem lJ (x:AG [(false,(.sl true T5))]):Aa Tryz.prog (AB pu bE) (AH i7) 3000 60 282 [(false,(.sl true T5))] [(false,(.int .i64))] x=DG x:=by kernel_rfl
def bG:List (FuncId×Sg):=(282,⟨[(false,(.sl true T5))],[(false,(.int .i64))],DG⟩)::bE
theorem bH:TabOK Tryz.prog (AB pu bG):=AE bF lJ
theorem lK:K4 Tryz.prog (λf => !pu f) 1000 100 285=true:=by kernel_rfl
theorem lL (a:Ty.den T5) (l:List (Ty.den T5)):Aa Tryz.prog (AB pu bG) (AH []) 3000 60 285 [(false,(.sl true T5))] [(false,(.sl true T5))] (a::l)=Ag (a::l):=by kernel_rfl
def bI:List (FuncId×Sg):=(285,⟨[(false,(.sl true T5))],[(false,(.sl true T5))],Ag⟩)::bG
theorem bJ:TabOK Tryz.prog (AB pu bI):=Lx (gg:=true) (c:=T5) bH lK rfl lL
theorem lM:Mj Tryz.prog (λf => !pu f) 1000 100 285=true:=by kernel_rfl
theorem lN (a:Ty.den T5) (l:List (Ty.den T5)):N5 Tryz.prog (AB pu bI) (AH []) 3000 60 285 [(false,(.sl true T5))] true T5 (a::l)=Ag (a::l):=by kernel_rfl
def bK:List (FuncId×Sg):=(285+Fc,⟨[(false,(.sl true T5))],[(false,(.sl true T5))],Ag⟩)::bI
theorem bL:TabOK Tryz.prog (AB pu bK):=Ly (gg:=true) (c:=T5) bJ lM rfl (λa l y h=>Lz h) lN
def i8:List (Nat×Nat×Nat×An):=[(283,6,26,.loop { keep:=[0,3,15,23,11,19,17,13,21,2,4,16,24,12,20,6,10,18,14,22],kb:=[0,7],pl:=[.slot 7 false (.int .i64),.srow 5 false (.int .i64) true,.box 20 [.ow true T5 false,.ow false (.int .i64) true,.lf (.int .i64)]],ex:=[(.exit 0,[])],pay:=.unit })]
theorem lO (x:AG [(false,(.sl true T5))]):Aa Tryz.prog (AB pu bK) (AH i8) 3000 60 283 [(false,(.sl true T5))] [(true,T7)] x=Ev x:=by kernel_rfl
def bM:List (FuncId×Sg):=(283,⟨[(false,(.sl true T5))],[(true,T7)],Ev⟩)::bK
theorem bN:TabOK Tryz.prog (AB pu bM):=AE bL lO
theorem lQ (x:AG [(false,(.sl true T5))]):Aa Tryz.prog (AB pu bM) (AH []) 3000 60 273 [(false,(.sl true T5))] [(true,T7),(false,(.int .i64))] x=CK x:=by kernel_rfl
def bO:List (FuncId×Sg):=(273,⟨[(false,(.sl true T5))],[(true,T7),(false,(.int .i64))],CK⟩)::bM
theorem bQ:TabOK Tryz.prog (AB pu bO):=AE bN lQ
def i9:List (Nat×Nat×Nat×An):=[(256,3,47,.loop { keep:=[0,1,11,13,4,12,10,14],kb:=[0,39,27,13,30],pl:=[.slot 15 false (.int .i64),.srow 5 true T5 true],ex:=[(.exit 0,[])],pay:=.unit })]
theorem lR (x:AG [(false,(.sl false (.sl true T2))),(false,.bool)]):Aa Tryz.prog (AB pu bO) (AH i9) 3000 60 220 [(false,(.sl false (.sl true T2))),(false,.bool)] [(true,H4),(false,(.int .i64)),(false,(.int .i64))] x=EY x:=by kernel_rfl
def bR:List (FuncId×Sg):=(220,⟨[(false,(.sl false (.sl true T2))),(false,.bool)],[(true,H4),(false,(.int .i64)),(false,(.int .i64))],EY⟩)::bO
theorem bS:TabOK Tryz.prog (AB pu bR):=AE bQ lR
theorem lS (x:AG [(true,T4),(false,(.int .i64)),(false,.bool)]):Aa Tryz.prog (AB pu bR) (AH []) 3000 60 182 [(true,T4),(false,(.int .i64)),(false,.bool)] [(true,JA)] x=CL x:=by kernel_rfl
def bT:List (FuncId×Sg):=(182,⟨[(true,T4),(false,(.int .i64)),(false,.bool)],[(true,JA)],CL⟩)::bR
theorem bU:TabOK Tryz.prog (AB pu bT):=AE bS lS
def jA:List (Nat×Nat×Nat×An):=[(256,3,8,.loop { keep:=[0,1,11,13,4,10,14],kb:=[0],pl:=[.slot 15 false (.int .i64),.srow 5 true T5 true],ex:=[(.exit 0,[])],pay:=.unit })]
theorem lT (x:AG [(false,(.sl false (.sl true T2))),(false,(.sl false (.int .i64)))]):Aa Tryz.prog (AB pu bT) (AH jA) 3000 60 256 [(false,(.sl false (.sl true T2))),(false,(.sl false (.int .i64)))] [(true,T7)] x=Fq x:=by kernel_rfl
def bV:List (FuncId×Sg):=(1048832,⟨[(false,(.sl false (.sl true T2))),(false,(.sl false (.int .i64)))],[(true,T7)],Fq⟩)::bT
theorem bW:TabOK Tryz.prog (AB pu bV):=AE bU lT
end Go.Proofs.YthpkjfabdccpdaaGreat.Pt
