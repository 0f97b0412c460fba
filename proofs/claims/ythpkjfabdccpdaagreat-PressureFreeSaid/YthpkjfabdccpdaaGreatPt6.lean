/- The evaluator comes to each of the plain functions. No condition. -/
import Derived.Test.YthpkjfabdccpdaaGreatPt5
set_option linter.all false
namespace Go.Proofs.YthpkjfabdccpdaaGreat.Pt
open Go Go.Proofs.YthpkjfabdccpdaaGreat.Sv Go.Proofs.YthpkjfabdccpdaaGreat.Pl
set_option maxRecDepth 1000000
set_option linter.unusedVariables false
theorem nT (x:AG [(true,T2)]):Ac Tryz.prog (AC pu dW) (AI []) 3000 60 203 [(true,T2)] [zI] x=Cu x:=by kernel_rfl
def dY:List (FuncId×Sg):=(203,⟨[(true,T2)],[zI],Cu⟩)::dW
theorem dZ:TabOK Tryz.prog (AC pu dY):=AF dX nT
def kP:List (Nat×Nat×Nat×An):=[(132,6,18,.loop { keep:=[0,1,7,15,11,19,9,17,13,8,16,12,6,10,18,14],kb:=[0],pl:=[.slot 3 false zJ,.slot 2 false zJ,.slot 4 false zJ],ex:=[(.ret,[]),(.exit 0,[])],pay:=.unit })]
theorem nU (x:AG [(true,T3)]):Ac Tryz.prog (AC pu dY) (AI kP) 3000 60 132 [(true,T3)] [zI,zI] x=FM x:=by kernel_rfl
def da:List (FuncId×Sg):=(132,⟨[(true,T3)],[zI,zI],FM⟩)::dY
theorem db:TabOK Tryz.prog (AC pu da):=AF dZ nU
def kQ:List (Nat×Nat×Nat×An):=[(188,2,2,.loop { keep:=[1,4],kb:=[],pl:=[.slot 0 false zJ,.slot 5 false zJ],ex:=[(.exit 0,[])],pay:=.unit })]
theorem nV (x:AG [zI,zI]):Ac Tryz.prog (AC pu da) (AI kQ) 3000 60 188 [zI,zI] [zI] x=D1 x:=by kernel_rfl
def de:List (FuncId×Sg):=(188,⟨[zI,zI],[zI],D1⟩)::da
theorem dg:TabOK Tryz.prog (AC pu de):=AF db nV
def kS:List (Nat×Nat×Nat×An):=[(249,2,2,.loop { keep:=[0,1,4],kb:=[],pl:=[.slot 5 false zJ],ex:=[(.exit 0,[])],pay:=.unit })]
theorem nX (x:AG [(false,.str),(false,.str)]):Ac Tryz.prog (AC pu de) (AI kS) 3000 60 249 [(false,.str),(false,.str)] [zI] x=Ei x:=by kernel_rfl
def dh:List (FuncId×Sg):=(249,⟨[(false,.str),(false,.str)],[zI],Ei⟩)::de
theorem di:TabOK Tryz.prog (AC pu dh):=AF dg nX
theorem nY (x:AG [(false,.str),(false,.str)]):Ac Tryz.prog (AC pu dh) (AI []) 3000 60 225 [(false,.str),(false,.str)] [zI] x=EH x:=by kernel_rfl
def dj:List (FuncId×Sg):=(225,⟨[(false,.str),(false,.str)],[zI],EH⟩)::dh
theorem dk:TabOK Tryz.prog (AC pu dj):=AF di nY
def kT:List (Nat×Nat×Nat×An):=[(185,4,6,.loop { keep:=[0,7,8,6],kb:=[],pl:=[.slot 3 false zJ,.slot 2 false zJ,.slot 4 false zJ],ex:=[(.ret,[]),(.exit 0,[])],pay:=.unit })]
theorem nZ (x:AG [(false,(.sl true T2))]):Ac Tryz.prog (AC pu dj) (AI kT) 3000 60 185 [(false,(.sl true T2))] [zI,zI] x=Ci x:=by kernel_rfl
def dl:List (FuncId×Sg):=(185,⟨[(false,(.sl true T2))],[zI,zI],Ci⟩)::dj
theorem dm:TabOK Tryz.prog (AC pu dl):=AF dk nZ
theorem na (x:AG [(true,T3)]):Ac Tryz.prog (AC pu dl) (AI []) 3000 60 110 [(true,T3)] [zI,zI] x=FE x:=by kernel_rfl
def dq:List (FuncId×Sg):=(110,⟨[(true,T3)],[zI,zI],FE⟩)::dl
theorem dt:TabOK Tryz.prog (AC pu dq):=AF dm na
def kU:List (Nat×Nat×Nat×An):=[(187,9,21,.loop { keep:=[0,1,3,7,15,23,11,19,25,13,21,2,8,16,24,12,20,10,18,26,14,22],kb:=[0],pl:=[.slot 9 false zJ,.slot 6 false zJ],ex:=[(.ret,[]),(.exit 0,[])],pay:=.unit })]
theorem ng (x:AG [(true,T3),zI,(false,(.sl false zJ))]):Ac Tryz.prog (AC pu dq) (AI kU) 3000 60 187 [(true,T3),zI,(false,(.sl false zJ))] [zI] x=D2 x:=by kernel_rfl
def du:List (FuncId×Sg):=(187,⟨[(true,T3),zI,(false,(.sl false zJ))],[zI],D2⟩)::dq
theorem dv:TabOK Tryz.prog (AC pu du):=AF dt ng
def kV:List (Nat×Nat×Nat×An):=[(112,7,18,.loop { keep:=[0,1,15,11,19,17,13,21,16,12,20,10,18,14],kb:=[0],pl:=[.slot 3 false zJ,.srow 5 false zJ false,.slot 2 false zJ,.slot 4 false zJ,.slot 6 false zJ],ex:=[(.ret,[]),(.exit 0,[])],pay:=.unit }),(112,13,35,.loop { keep:=[0,1,7,15,31,23,11,19,35,17,33,25,13,21,37,29,16,32,24,12,20,36,6,10,18,34,26,14,22,30],kb:=[0],pl:=[.slot 3 false zJ,.srow 5 false zJ false,.slot 2 false zJ,.slot 4 false zJ,.slot 8 false zJ],ex:=[(.ret,[]),(.exit 2,[])],pay:=.unit })]
theorem nh (x:AG [(true,T4)]):Ac Tryz.prog (AC pu du) (AI kV) 3000 60 112 [(true,T4)] [zI,zI,zI] x=DU x:=by kernel_rfl
def dw:List (FuncId×Sg):=(112,⟨[(true,T4)],[zI,zI,zI],DU⟩)::du
theorem dx:TabOK Tryz.prog (AC pu dw):=AF dv nh
def kW:List (Nat×Nat×Nat×An):=[(120,6,16,.loop { keep:=[0,1,3,15,11,5,17,13,2,4,16,12,6,10,14],kb:=[0],pl:=[.srow 7 true T3 false,.slot 8 false zJ],ex:=[(.exit 0,[])],pay:=.unit }),(120,9,31,.loop { keep:=[0,1,3,15,31,23,11,19,27,5,17,33,13,21,29,2,4,8,16,32,12,20,28,6,10,26,14,22,30],kb:=[0],pl:=[.srow 7 true T3 false,.slot 9 false zJ],ex:=[(.exit 2,[])],pay:=.unit })]
theorem ni (x:AG [(true,T4)]):Ac Tryz.prog (AC pu dw) (AI kW) 3000 60 120 [(true,T4)] [(false,(.sl true T3)),zI] x=Ej x:=by kernel_rfl
def dy:List (FuncId×Sg):=(120,⟨[(true,T4)],[(false,(.sl true T3)),zI],Ej⟩)::dw
theorem dz:TabOK Tryz.prog (AC pu dy):=AF dx ni
def kX:List (Nat×Nat×Nat×An):=[(113,4,11,.loop { keep:=[0,1,3,7,11,9,2,4,8,10],kb:=[0],pl:=[.slot 5 false zJ,.slot 6 false zJ],ex:=[(.exit 0,[])],pay:=.unit })]
theorem nj (x:AG [(true,T4)]):Ac Tryz.prog (AC pu dy) (AI kX) 3000 60 113 [(true,T4)] [zI] x=Cz x:=by kernel_rfl
def d6:List (FuncId×Sg):=(113,⟨[(true,T4)],[zI],Cz⟩)::dy
theorem d7:TabOK Tryz.prog (AC pu d6):=AF dz nj
def kY:List (Nat×Nat×Nat×An):=[(114,3,4,.loop { keep:=[0,1,2],kb:=[0],pl:=[.srow 3 false zJ false,.slot 4 false zJ],ex:=[(.exit 0,[])],pay:=.unit })]
theorem nk (x:AG [(true,T4)]):Ac Tryz.prog (AC pu d6) (AI kY) 3000 60 114 [(true,T4)] [(false,(.sl false zJ))] x=Du x:=by kernel_rfl
def d8:List (FuncId×Sg):=(114,⟨[(true,T4)],[(false,(.sl false zJ))],Du⟩)::d6
theorem d9:TabOK Tryz.prog (AC pu d8):=AF d7 nk
theorem nl (x:AG [(true,T4),zI]):Ac Tryz.prog (AC pu d8) (AI []) 3000 60 186 [(true,T4),zI] [zI] x=HS x:=by kernel_rfl
def eA:List (FuncId×Sg):=(186,⟨[(true,T4),zI],[zI],HS⟩)::d8
theorem eB:TabOK Tryz.prog (AC pu eA):=AF d9 nl
theorem np (x:AG [(true,T4),zI]):Ac Tryz.prog (AC pu eA) (AI []) 3000 60 189 [(true,T4),zI] [(false,.bool),zI] x=Gg x:=by kernel_rfl
def eC:List (FuncId×Sg):=(189,⟨[(true,T4),zI],[(false,.bool),zI],Gg⟩)::eA
theorem eE:TabOK Tryz.prog (AC pu eC):=AF eB np
end Go.Proofs.YthpkjfabdccpdaaGreat.Pt
