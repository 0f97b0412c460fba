/- The evaluator comes to each of the plain functions. No condition. -/
import Derived.Test.YtfilfloanndddaaGreatPt7
set_option linter.all false
namespace Go.Proofs.YtfilfloanndddaaGreat.Pt
open Go Go.Proofs.YtfilfloanndddaaGreat.Sv Go.Proofs.YtfilfloanndddaaGreat.Pl
set_option maxRecDepth 1000000
set_option linter.unusedVariables false
def nU:List (Nat×Nat×Nat×An):=[(114,3,4,.loop { keep:=[0,1,2],kb:=[0],pl:=[.slot 3 false zJ,.slot 4 false zJ],ex:=[(.exit 0,[])],pay:=.unit })]
theorem pP (x:AP [(true,Xg)]):OE Tryz.prog (Ad pu dI) (Qq nU) 3000 60 114 [(true,Xg)] [zI] x=Vf x:=by kernel_rfl
def dJ:List (FuncId×Sg):=(114,⟨[(true,Xg)],[zI],Vf⟩)::dI
theorem fR:TabOK Tryz.prog (Ad pu dJ):=R1 fQ pP
def nV:List (Nat×Nat×Nat×An):=[(116,7,18,.loop { keep:=[0,15,11,19,5,17,13,16,12,20,6,14],kb:=[],pl:=[.srow 3 false zJ false,.srow 7 true T2 false,.srow 2 true T2 false,.slot 4 false zJ,.srow 8 false zJ false,.srow 9 false zJ true],ex:=[(.ret,[])],pay:=.unit,plx:=[.srow 3 false zJ false,.srow 2 true T2 false,.slot 4 false zJ] })]
theorem pR (x:AP [(false,(.sl false (.sl true T2)))]):OE Tryz.prog (Ad pu dJ) (Qq nV) 3000 60 116 [(false,(.sl false (.sl true T2)))] [(false,(.sl true T2)),(false,(.sl false zJ)),zI] x=V4 x:=by kernel_rfl
def dK:List (FuncId×Sg):=(116,⟨[(false,(.sl false (.sl true T2)))],[(false,(.sl true T2)),(false,(.sl false zJ)),zI],V4⟩)::dJ
theorem fS:TabOK Tryz.prog (Ad pu dK):=R1 fR pR
theorem qq (x:AP [(true,Zh)]):OE Tryz.prog (Ad pu dK) (Qq []) 3000 60 204 [(true,Zh)] [zI] x=WS x:=by kernel_rfl
def dL:List (FuncId×Sg):=(204,⟨[(true,Zh)],[zI],WS⟩)::dK
theorem fT:TabOK Tryz.prog (Ad pu dL):=R1 fS qq
theorem qc (x:AP [(true,Zh),(true,T2)]):OE Tryz.prog (Ad pu dL) (Qq []) 3000 60 187 [(true,Zh),(true,T2)] [(false,.bool),(true,Zh),zI] x=Wq x:=by kernel_rfl
def dM:List (FuncId×Sg):=(187,⟨[(true,Zh),(true,T2)],[(false,.bool),(true,Zh),zI],Wq⟩)::dL
theorem fU:TabOK Tryz.prog (Ad pu dM):=R1 fT qc
def nr:List (Nat×Nat×Nat×An):=[(158,6,12,.loop { keep:=[0,1,7,15,17,13,16,14],kb:=[],pl:=[.slot 5 false zJ,.slot 9 false zJ,.srow 4 true T2 false,.srow 8 true T2 false,.slot 6 false zJ,.box 8 [.lf .bool,.lf .str,.lf .bool]],ex:=[(.ret,[]),(.exit 0,[])],pay:=.unit })]
theorem qH (x:AP [(false,(.sl true T2)),(false,.bool)]):OE Tryz.prog (Ad pu dM) (Qq nr) 3000 60 158 [(false,(.sl true T2)),(false,.bool)] [(false,(.sl true T2)),zI,zI] x=V5 x:=by kernel_rfl
def dN:List (FuncId×Sg):=(158,⟨[(false,(.sl true T2)),(false,.bool)],[(false,(.sl true T2)),zI,zI],V5⟩)::dM
theorem fV:TabOK Tryz.prog (Ad pu dN):=R1 fU qH
theorem pT (x:AP [(false,(.sl true T2)),(false,.bool)]):OE Tryz.prog (Ad pu dN) (Qq []) 3000 60 117 [(false,(.sl true T2)),(false,.bool)] [(false,(.sl true T2)),(true,Zh)] x=U6 x:=by kernel_rfl
def dO:List (FuncId×Sg):=(117,⟨[(false,(.sl true T2)),(false,.bool)],[(false,(.sl true T2)),(true,Zh)],U6⟩)::dN
theorem fW:TabOK Tryz.prog (Ad pu dO):=R1 fV pT
def nY:List (Nat×Nat×Nat×An):=[(119,4,7,.loop { keep:=[0,1,7,9,8,6,10],kb:=[],pl:=[.slot 5 false zJ,.slot 4 false .bool],ex:=[(.ret,[]),(.exit 0,[])],pay:=.unit })]
theorem pV (x:AP [(false,(.sl true T2)),(false,(.sl true T2))]):OE Tryz.prog (Ad pu dO) (Qq nY) 3000 60 119 [(false,(.sl true T2)),(false,(.sl true T2))] [(false,.bool)] x=UL x:=by kernel_rfl
def dQ:List (FuncId×Sg):=(119,⟨[(false,(.sl true T2)),(false,(.sl true T2))],[(false,.bool)],UL⟩)::dO
theorem fX:TabOK Tryz.prog (Ad pu dQ):=R1 fW pV
theorem pN (x:AP [(true,Xg)]):OE Tryz.prog (Ad pu dQ) (Qq []) 3000 60 112 [(true,Xg)] [zI] x=WU x:=by kernel_rfl
def dR:List (FuncId×Sg):=(112,⟨[(true,Xg)],[zI],WU⟩)::dQ
theorem fY:TabOK Tryz.prog (Ad pu dR):=R1 fX pN
def nT:List (Nat×Nat×Nat×An):=[(113,6,14,.loop { keep:=[0,1,3,11,5,9,13,2,4,8,12,10,14],kb:=[0],pl:=[.slot 7 false zJ,.slot 6 false zJ],ex:=[(.exit 0,[])],pay:=.unit })]
theorem pO (x:AP [(true,T9)]):OE Tryz.prog (Ad pu dR) (Qq nT) 3000 60 113 [(true,T9)] [zI,zI] x=Wo x:=by kernel_rfl
def dS:List (FuncId×Sg):=(113,⟨[(true,T9)],[zI,zI],Wo⟩)::dR
theorem fZ:TabOK Tryz.prog (Ad pu dS):=R1 fY pO
theorem tI (x:AP [(true,Xg)]):OE Tryz.prog (Ad pu dS) (Qq []) 3000 60 69 [(true,Xg)] [zI,zI] x=Ti x:=by kernel_rfl
def dT:List (FuncId×Sg):=(69,⟨[(true,Xg)],[zI,zI],Ti⟩)::dS
theorem fa:TabOK Tryz.prog (Ad pu dT):=R1 fZ tI
theorem pQ (x:AP [(true,T9)]):OE Tryz.prog (Ad pu dT) (Qq []) 3000 60 115 [(true,T9)] [(true,T2),zI,(true,T9),zI] x=Ve x:=by kernel_rfl
def dU:List (FuncId×Sg):=(115,⟨[(true,T9)],[(true,T2),zI,(true,T9),zI],Ve⟩)::dT
theorem fb:TabOK Tryz.prog (Ad pu dU):=R1 fa pQ
def pD:List (Nat×Nat×Nat×An):=[(70,11,32,.loop { keep:=[0,1,7,15,31,23,39,19,35,27,5,9,17,33,25,21,37,2,4,8,16,32,24,20,36,6,10,18,34,26,22,30],kb:=[0,1],pl:=[.slot 11 false zJ,.box 29 [.lf (.sl false (.sl true T2)),.lf (.sl false zJ),.lf (.sl true T5),.lf (.sl false zJ),.lf zJ,.lf .bool,.lf .str,.lf .bool,.lf (.sl true T2),.lf zJ]],ex:=[(.exit 0,[])],pay:=.unit })]
theorem tJ (x:AP [(true,Xg),zI]):OE Tryz.prog (Ad pu dU) (Qq pD) 3000 60 70 [(true,Xg),zI] [(true,Xg),zI,zI] x=Tb x:=by kernel_rfl
def dV:List (FuncId×Sg):=(70,⟨[(true,Xg),zI],[(true,Xg),zI,zI],Tb⟩)::dU
theorem fc:TabOK Tryz.prog (Ad pu dV):=R1 fb tJ
def nX:List (Nat×Nat×Nat×An):=[(118,4,27,.loop { keep:=[0,1,3,7,15,23,11,19,27,9,17,25,13,21,2,8,16,24,12,20,28,6,10,18,26,14,22],kb:=[0,1],pl:=[.slot 5 false zJ,.slot 4 false .bool],ex:=[(.ret,[]),(.exit 0,[])],pay:=.unit })]
theorem pU (x:AP [(true,T9),(true,T9)]):OE Tryz.prog (Ad pu dV) (Qq nX) 3000 60 118 [(true,T9),(true,T9)] [(false,.bool)] x=Wp x:=by kernel_rfl
def dW:List (FuncId×Sg):=(118,⟨[(true,T9),(true,T9)],[(false,.bool)],Wp⟩)::dV
theorem fe:TabOK Tryz.prog (Ad pu dW):=R1 fc pU
theorem tK (x:AP [(true,Xg),(true,Xg)]):OE Tryz.prog (Ad pu dW) (Qq []) 3000 60 71 [(true,Xg),(true,Xg)] [(false,.bool)] x=UA x:=by kernel_rfl
def dX:List (FuncId×Sg):=(71,⟨[(true,Xg),(true,Xg)],[(false,.bool)],UA⟩)::dW
theorem ff:TabOK Tryz.prog (Ad pu dX):=R1 fe tK
end Go.Proofs.YtfilfloanndddaaGreat.Pt
