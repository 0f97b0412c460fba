/- The evaluator comes to each of the plain functions. No condition. -/
import Derived.Test.YtfilfloanndddaaGreatPt7
set_option linter.all false
namespace Go.Proofs.YtfilfloanndddaaGreat.Pt
open Go Go.Proofs.YtfilfloanndddaaGreat.Sv Go.Proofs.YtfilfloanndddaaGreat.Pl
set_option maxRecDepth 1000000
set_option linter.unusedVariables false
def nD:List (Nat×Nat×Nat×An):=[(114,3,4,.loop { keep:=[0,1,2],kb:=[0],pl:=[.slot 3 false zJ,.slot 4 false zJ],ex:=[(.exit 0,[])],pay:=.unit })]
theorem pH (x:AP [(true,XZ)]):OE Tryz.prog (Ad pu cU) (Qq nD) 3000 60 114 [(true,XZ)] [zI] x=Vc x:=by kernel_rfl
def cV:List (FuncId×Sg):=(114,⟨[(true,XZ)],[zI],Vc⟩)::cU
theorem eu:TabOK Tryz.prog (Ad pu cV):=R1 ej pH
def nE:List (Nat×Nat×Nat×An):=[(116,7,18,.loop { keep:=[0,15,11,19,5,17,13,16,12,20,6,14],kb:=[],pl:=[.srow 3 false zJ false,.srow 7 true T2 false,.srow 2 true T2 false,.slot 4 false zJ,.srow 8 false zJ false,.srow 9 false zJ true],ex:=[(.ret,[])],pay:=.unit,plx:=[.srow 3 false zJ false,.srow 2 true T2 false,.slot 4 false zJ] })]
theorem pJ (x:AP [(false,(.sl false (.sl true T2)))]):OE Tryz.prog (Ad pu cV) (Qq nE) 3000 60 116 [(false,(.sl false (.sl true T2)))] [(false,(.sl true T2)),(false,(.sl false zJ)),zI] x=V0 x:=by kernel_rfl
def cW:List (FuncId×Sg):=(116,⟨[(false,(.sl false (.sl true T2)))],[(false,(.sl true T2)),(false,(.sl false zJ)),zI],V0⟩)::cV
theorem ew:TabOK Tryz.prog (Ad pu cW):=R1 eu pJ
theorem qj (x:AP [(true,ZQ)]):OE Tryz.prog (Ad pu cW) (Qq []) 3000 60 204 [(true,ZQ)] [zI] x=WS x:=by kernel_rfl
def cX:List (FuncId×Sg):=(204,⟨[(true,ZQ)],[zI],WS⟩)::cW
theorem ez:TabOK Tryz.prog (Ad pu cX):=R1 ew qj
theorem qT (x:AP [(true,ZQ),(true,T2)]):OE Tryz.prog (Ad pu cX) (Qq []) 3000 60 187 [(true,ZQ),(true,T2)] [(false,.bool),(true,ZQ),zI] x=Wo x:=by kernel_rfl
def cY:List (FuncId×Sg):=(187,⟨[(true,ZQ),(true,T2)],[(false,.bool),(true,ZQ),zI],Wo⟩)::cX
theorem e8:TabOK Tryz.prog (Ad pu cY):=R1 ez qT
def nS:List (Nat×Nat×Nat×An):=[(158,6,12,.loop { keep:=[0,1,7,15,17,13,16,14],kb:=[],pl:=[.slot 5 false zJ,.slot 9 false zJ,.srow 4 true T2 false,.srow 8 true T2 false,.slot 6 false zJ,.box 8 [.lf .bool,.lf .str,.lf .bool]],ex:=[(.ret,[]),(.exit 0,[])],pay:=.unit })]
theorem qA (x:AP [(false,(.sl true T2)),(false,.bool)]):OE Tryz.prog (Ad pu cY) (Qq nS) 3000 60 158 [(false,(.sl true T2)),(false,.bool)] [(false,(.sl true T2)),zI,zI] x=V1 x:=by kernel_rfl
def cZ:List (FuncId×Sg):=(158,⟨[(false,(.sl true T2)),(false,.bool)],[(false,(.sl true T2)),zI,zI],V1⟩)::cY
theorem e9:TabOK Tryz.prog (Ad pu cZ):=R1 e8 qA
theorem pK (x:AP [(false,(.sl true T2)),(false,.bool)]):OE Tryz.prog (Ad pu cZ) (Qq []) 3000 60 117 [(false,(.sl true T2)),(false,.bool)] [(false,(.sl true T2)),(true,ZQ)] x=U4 x:=by kernel_rfl
def ca:List (FuncId×Sg):=(117,⟨[(false,(.sl true T2)),(false,.bool)],[(false,(.sl true T2)),(true,ZQ)],U4⟩)::cZ
theorem fA:TabOK Tryz.prog (Ad pu ca):=R1 e9 pK
def nG:List (Nat×Nat×Nat×An):=[(119,4,7,.loop { keep:=[0,1,7,9,8,6,10],kb:=[],pl:=[.slot 5 false zJ,.slot 4 false .bool],ex:=[(.ret,[]),(.exit 0,[])],pay:=.unit })]
theorem pM (x:AP [(false,(.sl true T2)),(false,(.sl true T2))]):OE Tryz.prog (Ad pu ca) (Qq nG) 3000 60 119 [(false,(.sl true T2)),(false,(.sl true T2))] [(false,.bool)] x=UK x:=by kernel_rfl
def cb:List (FuncId×Sg):=(119,⟨[(false,(.sl true T2)),(false,(.sl true T2))],[(false,.bool)],UK⟩)::ca
theorem fB:TabOK Tryz.prog (Ad pu cb):=R1 fA pM
theorem pF (x:AP [(true,XZ)]):OE Tryz.prog (Ad pu cb) (Qq []) 3000 60 112 [(true,XZ)] [zI] x=WU x:=by kernel_rfl
def cc:List (FuncId×Sg):=(112,⟨[(true,XZ)],[zI],WU⟩)::cb
theorem fC:TabOK Tryz.prog (Ad pu cc):=R1 fB pF
def nC:List (Nat×Nat×Nat×An):=[(113,6,14,.loop { keep:=[0,1,3,11,5,9,13,2,4,8,12,10,14],kb:=[0],pl:=[.slot 7 false zJ,.slot 6 false zJ],ex:=[(.exit 0,[])],pay:=.unit })]
theorem pG (x:AP [(true,T9)]):OE Tryz.prog (Ad pu cc) (Qq nC) 3000 60 113 [(true,T9)] [zI,zI] x=Wm x:=by kernel_rfl
def cd:List (FuncId×Sg):=(113,⟨[(true,T9)],[zI,zI],Wm⟩)::cc
theorem fD:TabOK Tryz.prog (Ad pu cd):=R1 fC pG
theorem tJ (x:AP [(true,XZ)]):OE Tryz.prog (Ad pu cd) (Qq []) 3000 60 69 [(true,XZ)] [zI,zI] x=Tf x:=by kernel_rfl
def cf:List (FuncId×Sg):=(69,⟨[(true,XZ)],[zI,zI],Tf⟩)::cd
theorem fE:TabOK Tryz.prog (Ad pu cf):=R1 fD tJ
theorem pI (x:AP [(true,T9)]):OE Tryz.prog (Ad pu cf) (Qq []) 3000 60 115 [(true,T9)] [(true,T2),zI,(true,T9),zI] x=Vb x:=by kernel_rfl
def cg:List (FuncId×Sg):=(115,⟨[(true,T9)],[(true,T2),zI,(true,T9),zI],Vb⟩)::cf
theorem fF:TabOK Tryz.prog (Ad pu cg):=R1 fE pI
def oq:List (Nat×Nat×Nat×An):=[(70,11,32,.loop { keep:=[0,1,7,15,31,23,39,19,35,27,5,9,17,33,25,21,37,2,4,8,16,32,24,20,36,6,10,18,34,26,22,30],kb:=[0,1],pl:=[.slot 11 false zJ,.box 29 [.lf (.sl false (.sl true T2)),.lf (.sl false zJ),.lf (.sl true T5),.lf (.sl false zJ),.lf zJ,.lf .bool,.lf .str,.lf .bool,.lf (.sl true T2),.lf zJ]],ex:=[(.exit 0,[])],pay:=.unit })]
theorem tK (x:AP [(true,XZ),zI]):OE Tryz.prog (Ad pu cg) (Qq oq) 3000 60 70 [(true,XZ),zI] [(true,XZ),zI,zI] x=TY x:=by kernel_rfl
def cj:List (FuncId×Sg):=(70,⟨[(true,XZ),zI],[(true,XZ),zI,zI],TY⟩)::cg
theorem fG:TabOK Tryz.prog (Ad pu cj):=R1 fF tK
def nF:List (Nat×Nat×Nat×An):=[(118,4,27,.loop { keep:=[0,1,3,7,15,23,11,19,27,9,17,25,13,21,2,8,16,24,12,20,28,6,10,18,26,14,22],kb:=[0,1],pl:=[.slot 5 false zJ,.slot 4 false .bool],ex:=[(.ret,[]),(.exit 0,[])],pay:=.unit })]
theorem pL (x:AP [(true,T9),(true,T9)]):OE Tryz.prog (Ad pu cj) (Qq nF) 3000 60 118 [(true,T9),(true,T9)] [(false,.bool)] x=Wn x:=by kernel_rfl
def ck:List (FuncId×Sg):=(118,⟨[(true,T9),(true,T9)],[(false,.bool)],Wn⟩)::cj
theorem fH:TabOK Tryz.prog (Ad pu ck):=R1 fG pL
theorem tL (x:AP [(true,XZ),(true,XZ)]):OE Tryz.prog (Ad pu ck) (Qq []) 3000 60 71 [(true,XZ),(true,XZ)] [(false,.bool)] x=Tw x:=by kernel_rfl
def cm:List (FuncId×Sg):=(71,⟨[(true,XZ),(true,XZ)],[(false,.bool)],Tw⟩)::ck
theorem fI:TabOK Tryz.prog (Ad pu cm):=R1 fH tL
end Go.Proofs.YtfilfloanndddaaGreat.Pt
