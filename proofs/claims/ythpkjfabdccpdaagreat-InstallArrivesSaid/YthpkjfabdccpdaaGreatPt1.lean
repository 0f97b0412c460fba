/- The evaluator comes to each of the plain functions. No condition. -/
import Derived.Test.YthpkjfabdccpdaaGreatPt0
set_option linter.all false
namespace Go.Proofs.YthpkjfabdccpdaaGreat.Pt
open Go Go.Proofs.YthpkjfabdccpdaaGreat.Sv Go.Proofs.YthpkjfabdccpdaaGreat.Pl
set_option maxRecDepth 1000000
set_option linter.unusedVariables false
def io:List (Nat×Nat×Nat×An):=[(187,9,21,.loop { keep:=[0,1,3,7,15,23,11,19,25,13,21,2,8,16,24,12,20,10,18,26,14,22],kb:=[0],pl:=[.slot 9 false (.int .i64),.slot 6 false (.int .i64)],ex:=[(.ret,[]),(.exit 0,[])],pay:=.unit })]
theorem kQ (x:AG [(true,T3),(false,(.int .i64)),(false,(.sl false (.int .i64)))]):Aa Tryz.prog (AB pu Zr) (AH io) 3000 60 187 [(true,T3),(false,(.int .i64)),(false,(.sl false (.int .i64)))] [(false,(.int .i64))] x=DA x:=by kernel_rfl
def Zt:List (FuncId×Sg):=(187,⟨[(true,T3),(false,(.int .i64)),(false,(.sl false (.int .i64)))],[(false,(.int .i64))],DA⟩)::Zr
theorem Zu:TabOK Tryz.prog (AB pu Zt):=AE Zs kQ
def ip:List (Nat×Nat×Nat×An):=[(112,7,18,.loop { keep:=[0,1,15,11,19,17,13,21,16,12,20,10,18,14],kb:=[0],pl:=[.slot 3 false (.int .i64),.srow 5 false (.int .i64) false,.slot 2 false (.int .i64),.slot 4 false (.int .i64),.slot 6 false (.int .i64)],ex:=[(.ret,[]),(.exit 0,[])],pay:=.unit }),(112,13,35,.loop { keep:=[0,1,7,15,31,23,11,19,35,17,33,25,13,21,37,29,16,32,24,12,20,36,6,10,18,34,26,14,22,30],kb:=[0],pl:=[.slot 3 false (.int .i64),.srow 5 false (.int .i64) false,.slot 2 false (.int .i64),.slot 4 false (.int .i64),.slot 8 false (.int .i64)],ex:=[(.ret,[]),(.exit 2,[])],pay:=.unit })]
theorem kS (x:AG [(true,T4)]):Aa Tryz.prog (AB pu Zt) (AH ip) 3000 60 112 [(true,T4)] [(false,(.int .i64)),(false,(.int .i64)),(false,(.int .i64))] x=CM x:=by kernel_rfl
def Zv:List (FuncId×Sg):=(112,⟨[(true,T4)],[(false,(.int .i64)),(false,(.int .i64)),(false,(.int .i64))],CM⟩)::Zt
theorem Zw:TabOK Tryz.prog (AB pu Zv):=AE Zu kS
def iq:List (Nat×Nat×Nat×An):=[(120,6,16,.loop { keep:=[0,1,3,15,11,5,17,13,2,4,16,12,6,10,14],kb:=[0],pl:=[.srow 7 true T3 false,.slot 8 false (.int .i64)],ex:=[(.exit 0,[])],pay:=.unit }),(120,9,31,.loop { keep:=[0,1,3,15,31,23,11,19,27,5,17,33,13,21,29,2,4,8,16,32,12,20,28,6,10,26,14,22,30],kb:=[0],pl:=[.srow 7 true T3 false,.slot 9 false (.int .i64)],ex:=[(.exit 2,[])],pay:=.unit })]
theorem kT (x:AG [(true,T4)]):Aa Tryz.prog (AB pu Zv) (AH iq) 3000 60 120 [(true,T4)] [(false,(.sl true T3)),(false,(.int .i64))] x=Dg x:=by kernel_rfl
def Zx:List (FuncId×Sg):=(120,⟨[(true,T4)],[(false,(.sl true T3)),(false,(.int .i64))],Dg⟩)::Zv
theorem Zy:TabOK Tryz.prog (AB pu Zx):=AE Zw kT
def ir:List (Nat×Nat×Nat×An):=[(113,4,11,.loop { keep:=[0,1,3,7,11,9,2,4,8,10],kb:=[0],pl:=[.slot 5 false (.int .i64),.slot 6 false (.int .i64)],ex:=[(.exit 0,[])],pay:=.unit })]
theorem kU (x:AG [(true,T4)]):Aa Tryz.prog (AB pu Zx) (AH ir) 3000 60 113 [(true,T4)] [(false,(.int .i64))] x=CH x:=by kernel_rfl
def Zz:List (FuncId×Sg):=(113,⟨[(true,T4)],[(false,(.int .i64))],CH⟩)::Zx
theorem Z0:TabOK Tryz.prog (AB pu Zz):=AE Zy kU
def iu:List (Nat×Nat×Nat×An):=[(114,3,4,.loop { keep:=[0,1,2],kb:=[0],pl:=[.srow 3 false (.int .i64) false,.slot 4 false (.int .i64)],ex:=[(.exit 0,[])],pay:=.unit })]
theorem kV (x:AG [(true,T4)]):Aa Tryz.prog (AB pu Zz) (AH iu) 3000 60 114 [(true,T4)] [(false,(.sl false (.int .i64)))] x=CR x:=by kernel_rfl
def Z1:List (FuncId×Sg):=(114,⟨[(true,T4)],[(false,(.sl false (.int .i64)))],CR⟩)::Zz
theorem Z3:TabOK Tryz.prog (AB pu Z1):=AE Z0 kV
theorem kW (x:AG [(true,T4),(false,(.int .i64))]):Aa Tryz.prog (AB pu Z1) (AH []) 3000 60 186 [(true,T4),(false,(.int .i64))] [(false,(.int .i64))] x=GU x:=by kernel_rfl
def Z4:List (FuncId×Sg):=(186,⟨[(true,T4),(false,(.int .i64))],[(false,(.int .i64))],GU⟩)::Z1
theorem Z5:TabOK Tryz.prog (AB pu Z4):=AE Z3 kW
theorem kX (x:AG [(true,T4),(false,(.int .i64))]):Aa Tryz.prog (AB pu Z4) (AH []) 3000 60 189 [(true,T4),(false,(.int .i64))] [(false,.bool),(false,(.int .i64))] x=Gd x:=by kernel_rfl
def Z6:List (FuncId×Sg):=(189,⟨[(true,T4),(false,(.int .i64))],[(false,.bool),(false,(.int .i64))],Gd⟩)::Z4
theorem Z7:TabOK Tryz.prog (AB pu Z6):=AE Z5 kX
theorem kY (x:AG [(true,T4),(false,(.int .i64))]):Aa Tryz.prog (AB pu Z6) (AH []) 3000 60 115 [(true,T4),(false,(.int .i64))] [(false,.bool)] x=BB x:=by kernel_rfl
def Z8:List (FuncId×Sg):=(115,⟨[(true,T4),(false,(.int .i64))],[(false,.bool)],BB⟩)::Z6
theorem Z9:TabOK Tryz.prog (AB pu Z8):=AE Z7 kY
def iv:List (Nat×Nat×Nat×An):=[(231,6,9,.loop { keep:=[0,7,11,9,8,12,10],kb:=[],pl:=[.slot 3 false (.int .i64),.slot 2 false (.int .i64),.slot 4 false (.int .i64)],ex:=[(.ret,[]),(.exit 0,[])],pay:=.unit })]
theorem kZ (x:AG [(false,(.sl false (.sl true T2)))]):Aa Tryz.prog (AB pu Z8) (AH iv) 3000 60 231 [(false,(.sl false (.sl true T2)))] [(false,(.int .i64)),(false,(.int .i64))] x=DK x:=by kernel_rfl
def aA:List (FuncId×Sg):=(231,⟨[(false,(.sl false (.sl true T2)))],[(false,(.int .i64)),(false,(.int .i64))],DK⟩)::Z8
theorem aB:TabOK Tryz.prog (AB pu aA):=AE Z9 kZ
def iw:List (Nat×Nat×Nat×An):=[(269,6,8,.loop { keep:=[0,7,5,9,4,8,6],kb:=[],pl:=[.slot 3 false (.int .i64),.slot 2 false (.int .i64)],ex:=[(.ret,[]),(.exit 0,[])],pay:=.unit })]
theorem ka (x:AG [(false,(.sl true T5))]):Aa Tryz.prog (AB pu aA) (AH iw) 3000 60 269 [(false,(.sl true T5))] [(false,(.int .i64))] x=FE x:=by kernel_rfl
def aC:List (FuncId×Sg):=(269,⟨[(false,(.sl true T5))],[(false,(.int .i64))],FE⟩)::aA
theorem aD:TabOK Tryz.prog (AB pu aC):=AE aB ka
theorem kc (x:AG [(false,(.sl true T5)),(false,(.int .i64)),(false,(.int .i64))]):Aa Tryz.prog (AB pu aC) (AH []) 3000 60 287 [(false,(.sl true T5)),(false,(.int .i64)),(false,(.int .i64))] [(false,.bool)] x=Ez x:=by kernel_rfl
def aE:List (FuncId×Sg):=(287,⟨[(false,(.sl true T5)),(false,(.int .i64)),(false,(.int .i64))],[(false,.bool)],Ez⟩)::aC
theorem aF:TabOK Tryz.prog (AB pu aE):=AE aD kc
theorem ke (r:AG [(false,(.sl true T5)),(false,(.int .i64))]->Option (AG [(false,(.int .i64)),(false,(.int .i64))])) (x:AG [(false,(.sl true T5)),(false,(.int .i64))]):Aa Tryz.prog (AB pu ((281,⟨[(false,(.sl true T5)),(false,(.int .i64))],[(false,(.int .i64)),(false,(.int .i64))],r⟩)::aE)) (AH []) 3000 60 281 [(false,(.sl true T5)),(false,(.int .i64))] [(false,(.int .i64)),(false,(.int .i64))] x=Aq r x:=by kernel_rfl
def aG:List (FuncId×Sg):=(281,⟨[(false,(.sl true T5)),(false,(.int .i64))],[(false,(.int .i64)),(false,(.int .i64))],Je (α:=AG [(false,(.sl true T5)),(false,(.int .i64))]) (β:=AG [(false,(.int .i64)),(false,(.int .i64))]) Aq 100⟩)::aE
theorem aH:TabOK Tryz.prog (AB pu aG):=fE aF ke (by rfl) (by rfl) 100
def iy:List (Nat×Nat×Nat×An):=[(270,3,11,.loop { keep:=[0,3,5,9,2,8,6],kb:=[0],pl:=[.slot 4 false (.int .i64),.box 8 [.ow true T5 false,.ow false (.int .i64) true,.lf (.int .i64)]],ex:=[(.exit 0,[])],pay:=.unit })]
theorem kg (x:AG [(false,(.sl true T5))]):Aa Tryz.prog (AB pu aG) (AH iy) 3000 60 270 [(false,(.sl true T5))] [(true,T7)] x=Fz x:=by kernel_rfl
def aI:List (FuncId×Sg):=(270,⟨[(false,(.sl true T5))],[(true,T7)],Fz⟩)::aG
theorem aJ:TabOK Tryz.prog (AB pu aI):=AE aH kg
theorem kh (x:AG [(false,(.sl true T5))]):Aa Tryz.prog (AB pu aI) (AH []) 3000 60 250 [(false,(.sl true T5))] [(true,T7),(false,(.int .i64))] x=EG x:=by kernel_rfl
def aK:List (FuncId×Sg):=(250,⟨[(false,(.sl true T5))],[(true,T7),(false,(.int .i64))],EG⟩)::aI
theorem aL:TabOK Tryz.prog (AB pu aK):=AE aJ kh
end Go.Proofs.YthpkjfabdccpdaaGreat.Pt
