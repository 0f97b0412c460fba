/- The evaluator comes to each of the plain functions. No condition. -/
import Derived.Test.YthpkjfabdccpdaaGreatPt2
set_option linter.all false
namespace Go.Proofs.YthpkjfabdccpdaaGreat.Pt
open Go Go.Proofs.YthpkjfabdccpdaaGreat.Sv Go.Proofs.YthpkjfabdccpdaaGreat.Pl
set_option maxRecDepth 1000000
set_option linter.unusedVariables false
def iH:List (Nat×Nat×Nat×An):=[(254,6,13,.loop { keep:=[0,15,11,9,17,13,8,16,12,10,14],kb:=[],pl:=[.slot 3 false (.int .i64),.slot 2 false (.int .i64),.slot 18 false (.int .i64)],ex:=[(.ret,[]),(.exit 1,[])],pay:=.unit })]
theorem jx (x:AF [(false,(.sl false (.sl true T2)))]):Aj Tryz.prog (AC pu Z5) (AK iH) 3000 60 254 [(false,(.sl false (.sl true T2)))] [(false,(.int .i64)),(false,(.int .i64))] x=DM x:=by kernel_rfl
def Z7:List (FuncId×Sg):=(254,⟨[(false,(.sl false (.sl true T2)))],[(false,(.int .i64)),(false,(.int .i64))],DM⟩)::Z5
theorem Z8:TabOK Tryz.prog (AC pu Z7):=AG Z6 jx
theorem jy (x:AF [(false,.bool)]):Aj Tryz.prog (AC pu Z7) (AK []) 3000 60 243 [(false,.bool)] [(true,W0)] x=CO x:=by kernel_rfl
def Z9:List (FuncId×Sg):=(243,⟨[(false,.bool)],[(true,W0)],CO⟩)::Z7
theorem aA:TabOK Tryz.prog (AC pu Z9):=AG Z8 jy
theorem jz:K9 Tryz.prog (λf => !pu f) 1000 100 268=true:=by kernel_rfl
theorem j0 (a:Ty.den (.sl true T2)) (l:List (Ty.den (.sl true T2))):Aj Tryz.prog (AC pu Z9) (AK []) 3000 60 268 [(false,(.sl false (.sl true T2)))] [(false,(.sl false (.sl true T2)))] (a::l)=Af (a::l):=by kernel_rfl
def aB:List (FuncId×Sg):=(268,⟨[(false,(.sl false (.sl true T2)))],[(false,(.sl false (.sl true T2)))],Af⟩)::Z9
theorem aC:TabOK Tryz.prog (AC pu aB):=L0 (gg:=false) (c:=(.sl true T2)) aA jz rfl j0
theorem j7:Mt Tryz.prog (λf => !pu f) 1000 100 268=true:=by kernel_rfl
theorem j8 (a:Ty.den (.sl true T2)) (l:List (Ty.den (.sl true T2))):OF Tryz.prog (AC pu aB) (AK []) 3000 60 268 [(false,(.sl false (.sl true T2)))] false (.sl true T2) (a::l)=Af (a::l):=by kernel_rfl
def aD:List (FuncId×Sg):=(268+FP,⟨[(false,(.sl false (.sl true T2)))],[(false,(.sl false (.sl true T2)))],Af⟩)::aB
theorem aE:TabOK Tryz.prog (AC pu aD):=L1 (gg:=false) (c:=(.sl true T2)) aC j7 rfl (λa l y h=>L3 h) j8
theorem j9 (x:AF [(false,(.sl true T2)),(false,(.int .i64))]):Aj Tryz.prog (AC pu aD) (AK []) 3000 60 272 [(false,(.sl true T2)),(false,(.int .i64))] [(true,T5)] x=BC x:=by kernel_rfl
def aF:List (FuncId×Sg):=(272,⟨[(false,(.sl true T2)),(false,(.int .i64))],[(true,T5)],BC⟩)::aD
theorem aG:TabOK Tryz.prog (AC pu aF):=AG aE j9
theorem kA (x:AF [(true,T5)]):Aj Tryz.prog (AC pu aF) (AK []) 3000 60 289 [(true,T5)] [(false,.bool)] x=C9 x:=by kernel_rfl
def aH:List (FuncId×Sg):=(289,⟨[(true,T5)],[(false,.bool)],C9⟩)::aF
theorem aI:TabOK Tryz.prog (AC pu aH):=AG aG kA
def iI:List (Nat×Nat×Nat×An):=[(291,2,22,.loop { keep:=[0,1,7,6],kb:=[],pl:=[.slot 4 false (.int .i64),.slot 8 false (.int .i64)],ex:=[(.ret,[]),(.exit 0,[])],pay:=.unit })]
theorem kB (x:AF [(false,(.sl true T5))]):Aj Tryz.prog (AC pu aH) (AK iI) 3000 60 282 [(false,(.sl true T5))] [(false,(.int .i64))] x=DN x:=by kernel_rfl
def aJ:List (FuncId×Sg):=(282,⟨[(false,(.sl true T5))],[(false,(.int .i64))],DN⟩)::aH
theorem aK:TabOK Tryz.prog (AC pu aJ):=AG aI kB
theorem kC:K9 Tryz.prog (λf => !pu f) 1000 100 285=true:=by kernel_rfl
theorem kD (a:Ty.den T5) (l:List (Ty.den T5)):Aj Tryz.prog (AC pu aJ) (AK []) 3000 60 285 [(false,(.sl true T5))] [(false,(.sl true T5))] (a::l)=Ag (a::l):=by kernel_rfl
def aL:List (FuncId×Sg):=(285,⟨[(false,(.sl true T5))],[(false,(.sl true T5))],Ag⟩)::aJ
theorem aM:TabOK Tryz.prog (AC pu aL):=L0 (gg:=true) (c:=T5) aK kC rfl kD
theorem kF:Mt Tryz.prog (λf => !pu f) 1000 100 285=true:=by kernel_rfl
theorem kG (a:Ty.den T5) (l:List (Ty.den T5)):OF Tryz.prog (AC pu aL) (AK []) 3000 60 285 [(false,(.sl true T5))] true T5 (a::l)=Ag (a::l):=by kernel_rfl
def aN:List (FuncId×Sg):=(285+FP,⟨[(false,(.sl true T5))],[(false,(.sl true T5))],Ag⟩)::aL
theorem aO:TabOK Tryz.prog (AC pu aN):=L1 (gg:=true) (c:=T5) aM kF rfl (λa l y h=>L3 h) kG
def iJ:List (Nat×Nat×Nat×An):=[(283,6,26,.loop { keep:=[0,3,15,23,11,19,17,13,21,2,4,16,24,12,20,6,10,18,14,22],kb:=[0,7],pl:=[.slot 7 false (.int .i64),.srow 5 false (.int .i64) true,.box 20 [.ow true T5 false,.ow false (.int .i64) true,.lf (.int .i64)]],ex:=[(.exit 0,[])],pay:=.unit })]
theorem kH (x:AF [(false,(.sl true T5))]):Aj Tryz.prog (AC pu aN) (AK iJ) 3000 60 283 [(false,(.sl true T5))] [(true,T7)] x=Ei x:=by kernel_rfl
def aQ:List (FuncId×Sg):=(283,⟨[(false,(.sl true T5))],[(true,T7)],Ei⟩)::aN
theorem aR:TabOK Tryz.prog (AC pu aQ):=AG aO kH
theorem kI (x:AF [(false,(.sl true T5))]):Aj Tryz.prog (AC pu aQ) (AK []) 3000 60 273 [(false,(.sl true T5))] [(true,T7),(false,(.int .i64))] x=CJ x:=by kernel_rfl
def aS:List (FuncId×Sg):=(273,⟨[(false,(.sl true T5))],[(true,T7),(false,(.int .i64))],CJ⟩)::aQ
theorem aT:TabOK Tryz.prog (AC pu aS):=AG aR kI
def iK:List (Nat×Nat×Nat×An):=[(256,3,47,.loop { keep:=[0,1,11,13,4,12,10,14],kb:=[0,39,27,13,30],pl:=[.slot 15 false (.int .i64),.srow 5 true T5 true],ex:=[(.exit 0,[])],pay:=.unit })]
theorem kJ (x:AF [(false,(.sl false (.sl true T2))),(false,.bool)]):Aj Tryz.prog (AC pu aS) (AK iK) 3000 60 220 [(false,(.sl false (.sl true T2))),(false,.bool)] [(true,Oy),(false,(.int .i64)),(false,(.int .i64))] x=ER x:=by kernel_rfl
def aU:List (FuncId×Sg):=(220,⟨[(false,(.sl false (.sl true T2))),(false,.bool)],[(true,Oy),(false,(.int .i64)),(false,(.int .i64))],ER⟩)::aS
theorem aV:TabOK Tryz.prog (AC pu aU):=AG aT kJ
theorem kK (x:AF [(true,T4),(false,(.int .i64)),(false,.bool)]):Aj Tryz.prog (AC pu aU) (AK []) 3000 60 182 [(true,T4),(false,(.int .i64)),(false,.bool)] [(true,MI)] x=CK x:=by kernel_rfl
def aW:List (FuncId×Sg):=(182,⟨[(true,T4),(false,(.int .i64)),(false,.bool)],[(true,MI)],CK⟩)::aU
theorem aX:TabOK Tryz.prog (AC pu aW):=AG aV kK
def iL:List (Nat×Nat×Nat×An):=[(256,3,8,.loop { keep:=[0,1,11,13,4,10,14],kb:=[0],pl:=[.slot 15 false (.int .i64),.srow 5 true T5 true],ex:=[(.exit 0,[])],pay:=.unit })]
theorem kL (x:AF [(false,(.sl false (.sl true T2))),(false,(.sl false (.int .i64)))]):Aj Tryz.prog (AC pu aW) (AK iL) 3000 60 256 [(false,(.sl false (.sl true T2))),(false,(.sl false (.int .i64)))] [(true,T7)] x=Fg x:=by kernel_rfl
def aY:List (FuncId×Sg):=(1048832,⟨[(false,(.sl false (.sl true T2))),(false,(.sl false (.int .i64)))],[(true,T7)],Fg⟩)::aW
theorem aZ:TabOK Tryz.prog (AC pu aY):=AG aX kL
end Go.Proofs.YthpkjfabdccpdaaGreat.Pt
