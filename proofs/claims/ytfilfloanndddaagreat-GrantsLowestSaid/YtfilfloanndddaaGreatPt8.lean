/- The evaluator comes to each of the plain functions. No condition. -/
import Derived.Test.YtfilfloanndddaaGreatPt7
set_option linter.all false
namespace Go.Proofs.YtfilfloanndddaaGreat.Pt
open Go Go.Proofs.YtfilfloanndddaaGreat.Sv Go.Proofs.YtfilfloanndddaaGreat.Pl
set_option maxRecDepth 1000000
set_option linter.unusedVariables false
def oM:List (Nat×Nat×Nat×An):=[(114,3,4,.loop { keep:=[0,1,2],kb:=[0],pl:=[.slot 3 false zJ,.slot 4 false zJ],ex:=[(.exit 0,[])],pay:=.unit })]
theorem qV (x:AP [(true,Xn)]):OE Tryz.prog (Ad pu dK) (Qq oM) 3000 60 114 [(true,Xn)] [zI] x=Vm x:=by kernel_rfl
def dL:List (FuncId×Sg):=(114,⟨[(true,Xn)],[zI],Vm⟩)::dK
theorem fu:TabOK Tryz.prog (Ad pu dL):=R1 ft qV
def oN:List (Nat×Nat×Nat×An):=[(116,7,18,.loop { keep:=[0,15,11,19,5,17,13,16,12,20,6,14],kb:=[],pl:=[.srow 3 false zJ false,.srow 7 true T2 false,.srow 2 true T2 false,.slot 4 false zJ,.srow 8 false zJ false,.srow 9 false zJ true],ex:=[(.ret,[])],pay:=.unit,plx:=[.srow 3 false zJ false,.srow 2 true T2 false,.slot 4 false zJ] })]
theorem qX (x:AP [(false,(.sl false (.sl true T2)))]):OE Tryz.prog (Ad pu dL) (Qq oN) 3000 60 116 [(false,(.sl false (.sl true T2)))] [(false,(.sl true T2)),(false,(.sl false zJ)),zI] x=WA x:=by kernel_rfl
def dM:List (FuncId×Sg):=(116,⟨[(false,(.sl false (.sl true T2)))],[(false,(.sl true T2)),(false,(.sl false zJ)),zI],WA⟩)::dL
theorem fw:TabOK Tryz.prog (Ad pu dM):=R1 fu qX
theorem sG (x:AP [(true,Zm)]):OE Tryz.prog (Ad pu dM) (Qq []) 3000 60 204 [(true,Zm)] [zI] x=WY x:=by kernel_rfl
def dN:List (FuncId×Sg):=(204,⟨[(true,Zm)],[zI],WY⟩)::dM
theorem fx:TabOK Tryz.prog (Ad pu dN):=R1 fw sG
theorem ri (x:AP [(true,Zm),(true,T2)]):OE Tryz.prog (Ad pu dN) (Qq []) 3000 60 187 [(true,Zm),(true,T2)] [(false,.bool),(true,Zm),zI] x=Ww x:=by kernel_rfl
def dO:List (FuncId×Sg):=(187,⟨[(true,Zm),(true,T2)],[(false,.bool),(true,Zm),zI],Ww⟩)::dN
theorem fy:TabOK Tryz.prog (Ad pu dO):=R1 fx ri
def oc:List (Nat×Nat×Nat×An):=[(158,6,12,.loop { keep:=[0,1,7,15,17,13,16,14],kb:=[],pl:=[.slot 5 false zJ,.slot 9 false zJ,.srow 4 true T2 false,.srow 8 true T2 false,.slot 6 false zJ,.box 8 [.lf .bool,.lf .str,.lf .bool]],ex:=[(.ret,[]),(.exit 0,[])],pay:=.unit })]
theorem rF (x:AP [(false,(.sl true T2)),(false,.bool)]):OE Tryz.prog (Ad pu dO) (Qq oc) 3000 60 158 [(false,(.sl true T2)),(false,.bool)] [(false,(.sl true T2)),zI,zI] x=WB x:=by kernel_rfl
def dQ:List (FuncId×Sg):=(158,⟨[(false,(.sl true T2)),(false,.bool)],[(false,(.sl true T2)),zI,zI],WB⟩)::dO
theorem f6:TabOK Tryz.prog (Ad pu dQ):=R1 fy rF
theorem qY (x:AP [(false,(.sl true T2)),(false,.bool)]):OE Tryz.prog (Ad pu dQ) (Qq []) 3000 60 117 [(false,(.sl true T2)),(false,.bool)] [(false,(.sl true T2)),(true,Zm)] x=U9 x:=by kernel_rfl
def dR:List (FuncId×Sg):=(117,⟨[(false,(.sl true T2)),(false,.bool)],[(false,(.sl true T2)),(true,Zm)],U9⟩)::dQ
theorem f7:TabOK Tryz.prog (Ad pu dR):=R1 f6 qY
def oQ:List (Nat×Nat×Nat×An):=[(119,4,7,.loop { keep:=[0,1,7,9,8,6,10],kb:=[],pl:=[.slot 5 false zJ,.slot 4 false .bool],ex:=[(.ret,[]),(.exit 0,[])],pay:=.unit })]
theorem qc (x:AP [(false,(.sl true T2)),(false,(.sl true T2))]):OE Tryz.prog (Ad pu dR) (Qq oQ) 3000 60 119 [(false,(.sl true T2)),(false,(.sl true T2))] [(false,.bool)] x=UL x:=by kernel_rfl
def dS:List (FuncId×Sg):=(119,⟨[(false,(.sl true T2)),(false,(.sl true T2))],[(false,.bool)],UL⟩)::dR
theorem f8:TabOK Tryz.prog (Ad pu dS):=R1 f7 qc
theorem qT (x:AP [(true,Xn)]):OE Tryz.prog (Ad pu dS) (Qq []) 3000 60 112 [(true,Xn)] [zI] x=Wa x:=by kernel_rfl
def dT:List (FuncId×Sg):=(112,⟨[(true,Xn)],[zI],Wa⟩)::dS
theorem f9:TabOK Tryz.prog (Ad pu dT):=R1 f8 qT
def oL:List (Nat×Nat×Nat×An):=[(113,6,14,.loop { keep:=[0,1,3,11,5,9,13,2,4,8,12,10,14],kb:=[0],pl:=[.slot 7 false zJ,.slot 6 false zJ],ex:=[(.exit 0,[])],pay:=.unit })]
theorem qU (x:AP [(true,T9)]):OE Tryz.prog (Ad pu dT) (Qq oL) 3000 60 113 [(true,T9)] [zI,zI] x=Wu x:=by kernel_rfl
def dU:List (FuncId×Sg):=(113,⟨[(true,T9)],[zI,zI],Wu⟩)::dT
theorem gA:TabOK Tryz.prog (Ad pu dU):=R1 f9 qU
theorem uW (x:AP [(true,Xn)]):OE Tryz.prog (Ad pu dU) (Qq []) 3000 60 69 [(true,Xn)] [zI,zI] x=Ti x:=by kernel_rfl
def dV:List (FuncId×Sg):=(69,⟨[(true,Xn)],[zI,zI],Ti⟩)::dU
theorem gB:TabOK Tryz.prog (Ad pu dV):=R1 gA uW
theorem qW (x:AP [(true,T9)]):OE Tryz.prog (Ad pu dV) (Qq []) 3000 60 115 [(true,T9)] [(true,T2),zI,(true,T9),zI] x=Vl x:=by kernel_rfl
def dW:List (FuncId×Sg):=(115,⟨[(true,T9)],[(true,T2),zI,(true,T9),zI],Vl⟩)::dV
theorem gC:TabOK Tryz.prog (Ad pu dW):=R1 gB qW
def qE:List (Nat×Nat×Nat×An):=[(70,11,32,.loop { keep:=[0,1,7,15,31,23,39,19,35,27,5,9,17,33,25,21,37,2,4,8,16,32,24,20,36,6,10,18,34,26,22,30],kb:=[0,1],pl:=[.slot 11 false zJ,.box 29 [.lf (.sl false (.sl true T2)),.lf (.sl false zJ),.lf (.sl true T5),.lf (.sl false zJ),.lf zJ,.lf .bool,.lf .str,.lf .bool,.lf (.sl true T2),.lf zJ]],ex:=[(.exit 0,[])],pay:=.unit })]
theorem uX (x:AP [(true,Xn),zI]):OE Tryz.prog (Ad pu dW) (Qq qE) 3000 60 70 [(true,Xn),zI] [(true,Xn),zI,zI] x=Ta x:=by kernel_rfl
def dX:List (FuncId×Sg):=(70,⟨[(true,Xn),zI],[(true,Xn),zI,zI],Ta⟩)::dW
theorem gD:TabOK Tryz.prog (Ad pu dX):=R1 gC uX
def oO:List (Nat×Nat×Nat×An):=[(118,4,27,.loop { keep:=[0,1,3,7,15,23,11,19,27,9,17,25,13,21,2,8,16,24,12,20,28,6,10,18,26,14,22],kb:=[0,1],pl:=[.slot 5 false zJ,.slot 4 false .bool],ex:=[(.ret,[]),(.exit 0,[])],pay:=.unit })]
theorem qZ (x:AP [(true,T9),(true,T9)]):OE Tryz.prog (Ad pu dX) (Qq oO) 3000 60 118 [(true,T9),(true,T9)] [(false,.bool)] x=Wv x:=by kernel_rfl
def dY:List (FuncId×Sg):=(118,⟨[(true,T9),(true,T9)],[(false,.bool)],Wv⟩)::dX
theorem gE:TabOK Tryz.prog (Ad pu dY):=R1 gD qZ
theorem uY (x:AP [(true,Xn),(true,Xn)]):OE Tryz.prog (Ad pu dY) (Qq []) 3000 60 71 [(true,Xn),(true,Xn)] [(false,.bool)] x=Tu x:=by kernel_rfl
def dZ:List (FuncId×Sg):=(71,⟨[(true,Xn),(true,Xn)],[(false,.bool)],Tu⟩)::dY
theorem gF:TabOK Tryz.prog (Ad pu dZ):=R1 gE uY
end Go.Proofs.YtfilfloanndddaaGreat.Pt
