/- The evaluator comes to each of the plain functions. No condition. -/
import Derived.Test.YthpkjfabdccpdaaGreatPt6
set_option linter.all false
namespace Go.Proofs.YthpkjfabdccpdaaGreat.Pt
open Go Go.Proofs.YthpkjfabdccpdaaGreat.Sv Go.Proofs.YthpkjfabdccpdaaGreat.Pl
set_option maxRecDepth 1000000
set_option linter.unusedVariables false
theorem nq (x:AG [(true,T4),zI]):Ac Tryz.prog (AC pu eC) (AI []) 3000 60 115 [(true,T4),zI] [(false,.bool)] x=CD x:=by kernel_rfl
def eF:List (FuncId×Sg):=(115,⟨[(true,T4),zI],[(false,.bool)],CD⟩)::eC
theorem eG:TabOK Tryz.prog (AC pu eF):=AF eE nq
def kZ:List (Nat×Nat×Nat×An):=[(231,6,9,.loop { keep:=[0,7,11,9,8,12,10],kb:=[],pl:=[.slot 3 false zJ,.slot 2 false zJ,.slot 4 false zJ],ex:=[(.ret,[]),(.exit 0,[])],pay:=.unit })]
theorem nr (x:AG [(false,(.sl false (.sl true T2)))]):Ac Tryz.prog (AC pu eF) (AI kZ) 3000 60 231 [(false,(.sl false (.sl true T2)))] [zI,zI] x=DV x:=by kernel_rfl
def eI:List (FuncId×Sg):=(231,⟨[(false,(.sl false (.sl true T2)))],[zI,zI],DV⟩)::eF
theorem eJ:TabOK Tryz.prog (AC pu eI):=AF eG nr
def ka:List (Nat×Nat×Nat×An):=[(269,6,8,.loop { keep:=[0,7,5,9,4,8,6],kb:=[],pl:=[.slot 3 false zJ,.slot 2 false zJ],ex:=[(.ret,[]),(.exit 0,[])],pay:=.unit })]
theorem nu (x:AG [(false,(.sl true T5))]):Ac Tryz.prog (AC pu eI) (AI ka) 3000 60 269 [(false,(.sl true T5))] [zI] x=FG x:=by kernel_rfl
def U0:List (FuncId×Sg):=(269,⟨[(false,(.sl true T5))],[zI],FG⟩)::eI
theorem Xj:TabOK Tryz.prog (AC pu U0):=AF eJ nu
theorem nv (x:AG [(false,(.sl true T5)),zI,zI]):Ac Tryz.prog (AC pu U0) (AI []) 3000 60 287 [(false,(.sl true T5)),zI,zI] [(false,.bool)] x=E2 x:=by kernel_rfl
def U1:List (FuncId×Sg):=(287,⟨[(false,(.sl true T5)),zI,zI],[(false,.bool)],E2⟩)::U0
theorem Xk:TabOK Tryz.prog (AC pu U1):=AF Xj nv
theorem ny (r:AG [(false,(.sl true T5)),zI]->Option (AG [zI,zI])) (x:AG [(false,(.sl true T5)),zI]):Ac Tryz.prog (AC pu ((281,⟨[(false,(.sl true T5)),zI],[zI,zI],r⟩)::U1)) (AI []) 3000 60 281 [(false,(.sl true T5)),zI] [zI,zI] x=As r x:=by kernel_rfl
def U2:List (FuncId×Sg):=(281,⟨[(false,(.sl true T5)),zI],[zI,zI],Jh (α:=AG [(false,(.sl true T5)),zI]) (β:=AG [zI,zI]) As 100⟩)::U1
theorem Xl:TabOK Tryz.prog (AC pu U2):=fm Xk ny (by rfl) (by rfl) 100
def kc:List (Nat×Nat×Nat×An):=[(270,3,11,.loop { keep:=[0,3,5,9,2,8,6],kb:=[0],pl:=[.slot 4 false zJ,.box 8 [.ow true T5 false,.ow false zJ true,.lf zJ]],ex:=[(.exit 0,[])],pay:=.unit })]
theorem nz (x:AG [(false,(.sl true T5))]):Ac Tryz.prog (AC pu U2) (AI kc) 3000 60 270 [(false,(.sl true T5))] [(true,T7)] x=F6 x:=by kernel_rfl
def U3:List (FuncId×Sg):=(270,⟨[(false,(.sl true T5))],[(true,T7)],F6⟩)::U2
theorem Xm:TabOK Tryz.prog (AC pu U3):=AF Xl nz
theorem oA (x:AG [(false,(.sl true T5))]):Ac Tryz.prog (AC pu U3) (AI []) 3000 60 250 [(false,(.sl true T5))] [(true,T7),zI] x=EI x:=by kernel_rfl
def U4:List (FuncId×Sg):=(250,⟨[(false,(.sl true T5))],[(true,T7),zI],EI⟩)::U3
theorem Xn:TabOK Tryz.prog (AC pu U4):=AF Xm oA
def ke:List (Nat×Nat×Nat×An):=[(230,4,12,.loop { keep:=[0,1,15,11,5,9,13,4,12,10,14],kb:=[0,3,8,6],pl:=[.slot 7 false zJ,.srow 6 true T5 false],ex:=[(.exit 0,[])],pay:=.unit })]
theorem oB (x:AG [(false,(.sl false (.sl true T2))),(false,(.sl false zJ))]):Ac Tryz.prog (AC pu U4) (AI ke) 3000 60 230 [(false,(.sl false (.sl true T2))),(false,(.sl false zJ))] [(true,T9)] x=Cv x:=by kernel_rfl
def U5:List (FuncId×Sg):=(230,⟨[(false,(.sl false (.sl true T2))),(false,(.sl false zJ))],[(true,T9)],Cv⟩)::U4
theorem Xo:TabOK Tryz.prog (AC pu U5):=AF Xn oB
theorem oC (x:AG [(false,(.sl false (.sl true T2)))]):Ac Tryz.prog (AC pu U5) (AI []) 3000 60 226 [(false,(.sl false (.sl true T2)))] [(true,T9),zI,zI] x=Gh x:=by kernel_rfl
def U6:List (FuncId×Sg):=(226,⟨[(false,(.sl false (.sl true T2)))],[(true,T9),zI,zI],Gh⟩)::U5
theorem Xp:TabOK Tryz.prog (AC pu U6):=AF Xo oC
theorem oD (x:AG [(false,.bool)]):Ac Tryz.prog (AC pu U6) (AI []) 3000 60 227 [(false,.bool)] [(true,O0)] x=Cw x:=by kernel_rfl
def U7:List (FuncId×Sg):=(227,⟨[(false,.bool)],[(true,O0)],Cw⟩)::U6
theorem Xq:TabOK Tryz.prog (AC pu U7):=AF Xp oD
theorem oE (x:AG [(false,(.sl false (.sl true T2))),(false,.bool)]):Ac Tryz.prog (AC pu U7) (AI []) 3000 60 190 [(false,(.sl false (.sl true T2))),(false,.bool)] [(true,H5),zI,zI] x=FH x:=by kernel_rfl
def U8:List (FuncId×Sg):=(190,⟨[(false,(.sl false (.sl true T2))),(false,.bool)],[(true,H5),zI,zI],FH⟩)::U7
theorem Xr:TabOK Tryz.prog (AC pu U8):=AF Xq oE
theorem oF (x:AG [(true,T4),zI,(false,.bool)]):Ac Tryz.prog (AC pu U8) (AI []) 3000 60 116 [(true,T4),zI,(false,.bool)] [(true,WS)] x=BH x:=by kernel_rfl
def U9:List (FuncId×Sg):=(116,⟨[(true,T4),zI,(false,.bool)],[(true,WS)],BH⟩)::U8
theorem Xs:TabOK Tryz.prog (AC pu U9):=AF Xr oF
def kg:List (Nat×Nat×Nat×An):=[(233,4,7,.loop { keep:=[0,1,7,9,8,6,10],kb:=[],pl:=[.slot 5 false zJ,.slot 4 false .bool],ex:=[(.ret,[]),(.exit 0,[])],pay:=.unit })]
theorem oG (x:AG [(false,(.sl false zJ)),(false,(.sl false zJ))]):Ac Tryz.prog (AC pu U9) (AI kg) 3000 60 233 [(false,(.sl false zJ)),(false,(.sl false zJ))] [(false,.bool)] x=F7 x:=by kernel_rfl
def VA:List (FuncId×Sg):=(233,⟨[(false,(.sl false zJ)),(false,(.sl false zJ))],[(false,.bool)],F7⟩)::U9
theorem Xt:TabOK Tryz.prog (AC pu VA):=AF Xs oG
def kh:List (Nat×Nat×Nat×An):=[(234,4,26,.loop { keep:=[0,1,3,7,15,23,11,19,27,9,17,25,13,21,2,8,16,24,12,20,6,10,18,26,14,22],kb:=[0,1],pl:=[.slot 5 false zJ,.slot 4 false .bool],ex:=[(.ret,[]),(.exit 0,[])],pay:=.unit })]
theorem oH (x:AG [(true,T7),(true,T7)]):Ac Tryz.prog (AC pu VA) (AI kh) 3000 60 234 [(true,T7),(true,T7)] [(false,.bool)] x=E3 x:=by kernel_rfl
def VB:List (FuncId×Sg):=(234,⟨[(true,T7),(true,T7)],[(false,.bool)],E3⟩)::VA
theorem Xu:TabOK Tryz.prog (AC pu VB):=AF Xt oH
end Go.Proofs.YthpkjfabdccpdaaGreat.Pt
