/- The evaluator comes to each of the plain functions. No condition. -/
import Derived.Test.YthpkjfabdccpdaaGreatPt1
set_option linter.all false
namespace Go.Proofs.YthpkjfabdccpdaaGreat.Pt
open Go Go.Proofs.YthpkjfabdccpdaaGreat.Sv Go.Proofs.YthpkjfabdccpdaaGreat.Pl
set_option maxRecDepth 1000000
set_option linter.unusedVariables false
theorem kA (x:AE [(false,(.sl true T5))]):Ab Tryz.prog (AB pu Zw) (AI []) 3000 60 250 [(false,(.sl true T5))] [(true,T7),(false,(.int .i64))] x=D6 x:=by kernel_rfl
def Zy:List (FuncId×Sg):=(250,⟨[(false,(.sl true T5))],[(true,T7),(false,(.int .i64))],D6⟩)::Zw
theorem Zz:TabOK Tryz.prog (AB pu Zy):=AD Zx kA
def iN:List (Nat×Nat×Nat×An):=[(230,4,12,.loop { keep:=[0,1,15,11,5,9,13,4,12,10,14],kb:=[0,3,8,6],pl:=[.slot 7 false (.int .i64),.srow 6 true T5 false],ex:=[(.exit 0,[])],pay:=.unit })]
theorem kB (x:AE [(false,(.sl false (.sl true T2))),(false,(.sl false (.int .i64)))]):Ab Tryz.prog (AB pu Zy) (AI iN) 3000 60 230 [(false,(.sl false (.sl true T2))),(false,(.sl false (.int .i64)))] [(true,T9)] x=Cf x:=by kernel_rfl
def Z0:List (FuncId×Sg):=(230,⟨[(false,(.sl false (.sl true T2))),(false,(.sl false (.int .i64)))],[(true,T9)],Cf⟩)::Zy
theorem Z1:TabOK Tryz.prog (AB pu Z0):=AD Zz kB
theorem kC (x:AE [(false,(.sl false (.sl true T2)))]):Ab Tryz.prog (AB pu Z0) (AI []) 3000 60 226 [(false,(.sl false (.sl true T2)))] [(true,T9),(false,(.int .i64)),(false,(.int .i64))] x=GR x:=by kernel_rfl
def Z3:List (FuncId×Sg):=(226,⟨[(false,(.sl false (.sl true T2)))],[(true,T9),(false,(.int .i64)),(false,(.int .i64))],GR⟩)::Z0
theorem Z4:TabOK Tryz.prog (AB pu Z3):=AD Z1 kC
theorem kD (x:AE [(false,.bool)]):Ab Tryz.prog (AB pu Z3) (AI []) 3000 60 227 [(false,.bool)] [(true,Og)] x=Cg x:=by kernel_rfl
def Z5:List (FuncId×Sg):=(227,⟨[(false,.bool)],[(true,Og)],Cg⟩)::Z3
theorem Z6:TabOK Tryz.prog (AB pu Z5):=AD Z4 kD
theorem kF (x:AE [(false,(.sl false (.sl true T2))),(false,.bool)]):Ab Tryz.prog (AB pu Z5) (AI []) 3000 60 190 [(false,(.sl false (.sl true T2))),(false,.bool)] [(true,Ht),(false,(.int .i64)),(false,(.int .i64))] x=E4 x:=by kernel_rfl
def Z7:List (FuncId×Sg):=(190,⟨[(false,(.sl false (.sl true T2))),(false,.bool)],[(true,Ht),(false,(.int .i64)),(false,(.int .i64))],E4⟩)::Z5
theorem Z8:TabOK Tryz.prog (AB pu Z7):=AD Z6 kF
theorem kG (x:AE [(true,T4),(false,(.int .i64)),(false,.bool)]):Ab Tryz.prog (AB pu Z7) (AI []) 3000 60 116 [(true,T4),(false,(.int .i64)),(false,.bool)] [(true,gf)] x=A8 x:=by kernel_rfl
def Z9:List (FuncId×Sg):=(116,⟨[(true,T4),(false,(.int .i64)),(false,.bool)],[(true,gf)],A8⟩)::Z7
theorem aA:TabOK Tryz.prog (AB pu Z9):=AD Z8 kG
def kH:List (Nat×Nat×Nat×An):=[(86,7,25,.loop { keep:=[0,1,3,7,15,23,11,5,17,25,13,21,2,4,8,16,24,12,20,6,10,26,14,22],kb:=[0,1],pl:=[.slot 9 false (.int .i64),.box 19 [.lf (.int .i64),.lf (.sl true (.sl true T3)),.ow true gf false,.lf (.int .i64)]],ex:=[(.exit 0,[])],pay:=.unit })]
theorem mz (x:AE [(true,T4)]):Ab Tryz.prog (AB pu Z9) (AI kH) 3000 60 86 [(true,T4)] [(true,Hu),(false,(.int .i64))] x=K5 x:=by kernel_rfl
def aB:List (FuncId×Sg):=(86,⟨[(true,T4)],[(true,Hu),(false,(.int .i64))],K5⟩)::Z9
theorem aC:TabOK Tryz.prog (AB pu aB):=AD aA mz
theorem m6 (x:AE []):Ab Tryz.prog (AB pu aB) (AI []) 3000 60 75 [] [(true,Lz)] x=FL x:=by kernel_rfl
def aD:List (FuncId×Sg):=(75,⟨[],[(true,Lz)],FL⟩)::aB
theorem aE:TabOK Tryz.prog (AB pu aD):=AD aC m6
theorem kI (x:AE [(false,.str)]):Ab Tryz.prog (AB pu aD) (AI []) 3000 60 235 [(false,.str)] [(false,(.int .i64))] x=Eg x:=by kernel_rfl
def aF:List (FuncId×Sg):=(235,⟨[(false,.str)],[(false,(.int .i64))],Eg⟩)::aD
theorem aG:TabOK Tryz.prog (AB pu aF):=AD aE kI
theorem kJ (x:AE [(true,T2)]):Ab Tryz.prog (AB pu aF) (AI []) 3000 60 204 [(true,T2)] [(false,(.int .i64))] x=Bm x:=by kernel_rfl
def aH:List (FuncId×Sg):=(204,⟨[(true,T2)],[(false,(.int .i64))],Bm⟩)::aF
theorem aI:TabOK Tryz.prog (AB pu aH):=AD aG kJ
def iO:List (Nat×Nat×Nat×An):=[(202,6,23,.loop { keep:=[0,1,7,15,23,11,19,9,17,25,13,21,8,16,24,12,20,10,18,14,22],kb:=[0],pl:=[.slot 3 false (.int .i64),.slot 2 false (.int .i64),.slot 26 false (.int .i64)],ex:=[(.ret,[]),(.exit 1,[])],pay:=.unit })]
theorem kK (x:AE [(true,T3)]):Ab Tryz.prog (AB pu aH) (AI iO) 3000 60 202 [(true,T3)] [(false,(.int .i64)),(false,(.int .i64))] x=Dc x:=by kernel_rfl
def aJ:List (FuncId×Sg):=(202,⟨[(true,T3)],[(false,(.int .i64)),(false,(.int .i64))],Dc⟩)::aH
theorem aK:TabOK Tryz.prog (AB pu aJ):=AD aI kK
def iQ:List (Nat×Nat×Nat×An):=[(184,4,8,.loop { keep:=[0,7,11,9,8,10],kb:=[],pl:=[.slot 3 false (.int .i64),.slot 2 false (.int .i64),.slot 12 false (.int .i64)],ex:=[(.ret,[]),(.exit 0,[])],pay:=.unit })]
theorem kL (x:AE [(false,(.sl true T2))]):Ab Tryz.prog (AB pu aJ) (AI iQ) 3000 60 184 [(false,(.sl true T2))] [(false,(.int .i64)),(false,(.int .i64))] x=A7 x:=by kernel_rfl
def aL:List (FuncId×Sg):=(184,⟨[(false,(.sl true T2))],[(false,(.int .i64)),(false,(.int .i64))],A7⟩)::aJ
theorem aM:TabOK Tryz.prog (AB pu aL):=AD aK kL
theorem kM (x:AE [(true,T3)]):Ab Tryz.prog (AB pu aL) (AI []) 3000 60 109 [(true,T3)] [(false,(.int .i64)),(false,(.int .i64))] x=Fi x:=by kernel_rfl
def aN:List (FuncId×Sg):=(109,⟨[(true,T3)],[(false,(.int .i64)),(false,(.int .i64))],Fi⟩)::aL
theorem aO:TabOK Tryz.prog (AB pu aN):=AD aM kM
theorem kN (x:AE [(true,T3),(false,(.int .i64))]):Ab Tryz.prog (AB pu aN) (AI []) 3000 60 172 [(true,T3),(false,(.int .i64))] [(false,(.int .i64))] x=C9 x:=by kernel_rfl
def aQ:List (FuncId×Sg):=(172,⟨[(true,T3),(false,(.int .i64))],[(false,(.int .i64))],C9⟩)::aN
theorem aR:TabOK Tryz.prog (AB pu aQ):=AD aO kN
end Go.Proofs.YthpkjfabdccpdaaGreat.Pt
