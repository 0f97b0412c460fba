/- The evaluator comes to each of the plain functions. No condition. -/
import Derived.Test.YtfilfloanndddaaGreatPt7
set_option linter.all false
namespace Go.Proofs.YtfilfloanndddaaGreat.Pt
open Go Go.Proofs.YtfilfloanndddaaGreat.Sv Go.Proofs.YtfilfloanndddaaGreat.Pl
set_option maxRecDepth 1000000
set_option linter.unusedVariables false
def nZ:List (Nat×Nat×Nat×An):=[(159,4,7,.loop { keep:=[0,1,7,9,8,6,10],kb:=[],pl:=[.slot 5 false zJ,.slot 4 false .bool],ex:=[(.ret,[]),(.exit 0,[])],pay:=.unit })]
theorem qD (x:AP [(false,(.sl false zJ)),(false,(.sl false zJ))]):OE Tryz.prog (Ad pu cy) (Qq nZ) 3000 60 159 [(false,(.sl false zJ)),(false,(.sl false zJ))] [(false,.bool)] x=Wm x:=by kernel_rfl
def cz:List (FuncId×Sg):=(159,⟨[(false,(.sl false zJ)),(false,(.sl false zJ))],[(false,.bool)],Wm⟩)::cy
theorem fF:TabOK Tryz.prog (Ad pu cz):=R1 fE qD
def na:List (Nat×Nat×Nat×An):=[(160,4,26,.loop { keep:=[0,1,3,7,15,23,11,19,27,9,17,25,13,21,2,8,16,24,12,20,6,10,18,26,14,22],kb:=[0,1],pl:=[.slot 5 false zJ,.slot 4 false .bool],ex:=[(.ret,[]),(.exit 0,[])],pay:=.unit })]
theorem qE (x:AP [(true,T7),(true,T7)]):OE Tryz.prog (Ad pu cz) (Qq na) 3000 60 160 [(true,T7),(true,T7)] [(false,.bool)] x=WA x:=by kernel_rfl
def c0:List (FuncId×Sg):=(160,⟨[(true,T7),(true,T7)],[(false,.bool)],WA⟩)::cz
theorem fG:TabOK Tryz.prog (Ad pu c0):=R1 fF qE
def nU:List (Nat×Nat×Nat×An):=[(155,3,3,.loop { keep:=[0,1,4],kb:=[],pl:=[.slot 5 false zJ,.slot 6 false zJ],ex:=[(.exit 0,[])],pay:=.unit })]
theorem p9 (x:AP [(false,(.sl false (.sl true T2))),(false,(.sl false zJ))]):OE Tryz.prog (Ad pu c0) (Qq nU) 3000 60 155 [(false,(.sl false (.sl true T2))),(false,(.sl false zJ))] [zI] x=VS x:=by kernel_rfl
def dA:List (FuncId×Sg):=(155,⟨[(false,(.sl false (.sl true T2))),(false,(.sl false zJ))],[zI],VS⟩)::c0
theorem fH:TabOK Tryz.prog (Ad pu dA):=R1 fG p9
def nT:List (Nat×Nat×Nat×An):=[(154,7,21,.loop { keep:=[0,1,15,23,11,27,5,17,25,13,21,4,16,24,12,18,26,14,22],kb:=[0],pl:=[.slot 3 false zJ,.slot 2 false zJ,.slot 6 false zJ],ex:=[(.ret,[]),(.exit 0,[])],pay:=.unit }),(154,15,38,.loop { keep:=[0,1,7,15,63,23,11,67,27,59,5,17,65,25,57,13,21,69,61,4,16,64,24,56,12,68,60,6,18,66,26,58,14,22,70,62],kb:=[0],pl:=[.slot 3 false zJ,.slot 2 false zJ,.slot 8 false zJ],ex:=[(.ret,[]),(.exit 2,[])],pay:=.unit })]
theorem p8 (x:AP [(true,T9)]):OE Tryz.prog (Ad pu dA) (Qq nT) 3000 60 154 [(true,T9)] [zI,zI] x=VQ x:=by kernel_rfl
def dB:List (FuncId×Sg):=(154,⟨[(true,T9)],[zI,zI],VQ⟩)::dA
theorem fI:TabOK Tryz.prog (Ad pu dB):=R1 fH p8
def nI:List (Nat×Nat×Nat×An):=[(114,3,4,.loop { keep:=[0,1,2],kb:=[0],pl:=[.slot 3 false zJ,.slot 4 false zJ],ex:=[(.exit 0,[])],pay:=.unit })]
theorem pK (x:AP [(true,Xc)]):OE Tryz.prog (Ad pu dB) (Qq nI) 3000 60 114 [(true,Xc)] [zI] x=Ve x:=by kernel_rfl
def dC:List (FuncId×Sg):=(114,⟨[(true,Xc)],[zI],Ve⟩)::dB
theorem fJ:TabOK Tryz.prog (Ad pu dC):=R1 fI pK
def nJ:List (Nat×Nat×Nat×An):=[(116,7,18,.loop { keep:=[0,15,11,19,5,17,13,16,12,20,6,14],kb:=[],pl:=[.srow 3 false zJ false,.srow 7 true T2 false,.srow 2 true T2 false,.slot 4 false zJ,.srow 8 false zJ false,.srow 9 false zJ true],ex:=[(.ret,[])],pay:=.unit,plx:=[.srow 3 false zJ false,.srow 2 true T2 false,.slot 4 false zJ] })]
theorem pM (x:AP [(false,(.sl false (.sl true T2)))]):OE Tryz.prog (Ad pu dC) (Qq nJ) 3000 60 116 [(false,(.sl false (.sl true T2)))] [(false,(.sl true T2)),(false,(.sl false zJ)),zI] x=Vz x:=by kernel_rfl
def dD:List (FuncId×Sg):=(116,⟨[(false,(.sl false (.sl true T2)))],[(false,(.sl true T2)),(false,(.sl false zJ)),zI],Vz⟩)::dC
theorem fK:TabOK Tryz.prog (Ad pu dD):=R1 fJ pM
theorem ql (x:AP [(true,Zb)]):OE Tryz.prog (Ad pu dD) (Qq []) 3000 60 204 [(true,Zb)] [zI] x=WR x:=by kernel_rfl
def dE:List (FuncId×Sg):=(204,⟨[(true,Zb)],[zI],WR⟩)::dD
theorem fL:TabOK Tryz.prog (Ad pu dE):=R1 fK ql
theorem qV (x:AP [(true,Zb),(true,T2)]):OE Tryz.prog (Ad pu dE) (Qq []) 3000 60 187 [(true,Zb),(true,T2)] [(false,.bool),(true,Zb),zI] x=Wr x:=by kernel_rfl
def dF:List (FuncId×Sg):=(187,⟨[(true,Zb),(true,T2)],[(false,.bool),(true,Zb),zI],Wr⟩)::dE
theorem fM:TabOK Tryz.prog (Ad pu dF):=R1 fL qV
def nY:List (Nat×Nat×Nat×An):=[(158,6,12,.loop { keep:=[0,1,7,15,17,13,16,14],kb:=[],pl:=[.slot 5 false zJ,.slot 9 false zJ,.srow 4 true T2 false,.srow 8 true T2 false,.slot 6 false zJ,.box 8 [.lf .bool,.lf .str,.lf .bool]],ex:=[(.ret,[]),(.exit 0,[])],pay:=.unit })]
theorem qC (x:AP [(false,(.sl true T2)),(false,.bool)]):OE Tryz.prog (Ad pu dF) (Qq nY) 3000 60 158 [(false,(.sl true T2)),(false,.bool)] [(false,(.sl true T2)),zI,zI] x=V0 x:=by kernel_rfl
def dG:List (FuncId×Sg):=(158,⟨[(false,(.sl true T2)),(false,.bool)],[(false,(.sl true T2)),zI,zI],V0⟩)::dF
theorem fN:TabOK Tryz.prog (Ad pu dG):=R1 fM qC
theorem pN (x:AP [(false,(.sl true T2)),(false,.bool)]):OE Tryz.prog (Ad pu dG) (Qq []) 3000 60 117 [(false,(.sl true T2)),(false,.bool)] [(false,(.sl true T2)),(true,Zb)] x=U7 x:=by kernel_rfl
def dH:List (FuncId×Sg):=(117,⟨[(false,(.sl true T2)),(false,.bool)],[(false,(.sl true T2)),(true,Zb)],U7⟩)::dG
theorem fO:TabOK Tryz.prog (Ad pu dH):=R1 fN pN
def nL:List (Nat×Nat×Nat×An):=[(119,4,7,.loop { keep:=[0,1,7,9,8,6,10],kb:=[],pl:=[.slot 5 false zJ,.slot 4 false .bool],ex:=[(.ret,[]),(.exit 0,[])],pay:=.unit })]
theorem pP (x:AP [(false,(.sl true T2)),(false,(.sl true T2))]):OE Tryz.prog (Ad pu dH) (Qq nL) 3000 60 119 [(false,(.sl true T2)),(false,(.sl true T2))] [(false,.bool)] x=UL x:=by kernel_rfl
def dI:List (FuncId×Sg):=(119,⟨[(false,(.sl true T2)),(false,(.sl true T2))],[(false,.bool)],UL⟩)::dH
theorem fQ:TabOK Tryz.prog (Ad pu dI):=R1 fO pP
theorem pI (x:AP [(true,Xc)]):OE Tryz.prog (Ad pu dI) (Qq []) 3000 60 112 [(true,Xc)] [zI] x=WT x:=by kernel_rfl
def dJ:List (FuncId×Sg):=(112,⟨[(true,Xc)],[zI],WT⟩)::dI
theorem fR:TabOK Tryz.prog (Ad pu dJ):=R1 fQ pI
def nH:List (Nat×Nat×Nat×An):=[(113,6,14,.loop { keep:=[0,1,3,11,5,9,13,2,4,8,12,10,14],kb:=[0],pl:=[.slot 7 false zJ,.slot 6 false zJ],ex:=[(.exit 0,[])],pay:=.unit })]
theorem pJ (x:AP [(true,T9)]):OE Tryz.prog (Ad pu dJ) (Qq nH) 3000 60 113 [(true,T9)] [zI,zI] x=Wp x:=by kernel_rfl
def dK:List (FuncId×Sg):=(113,⟨[(true,T9)],[zI,zI],Wp⟩)::dJ
theorem fS:TabOK Tryz.prog (Ad pu dK):=R1 fR pJ
theorem tD (x:AP [(true,Xc)]):OE Tryz.prog (Ad pu dK) (Qq []) 3000 60 69 [(true,Xc)] [zI,zI] x=Ti x:=by kernel_rfl
def dL:List (FuncId×Sg):=(69,⟨[(true,Xc)],[zI,zI],Ti⟩)::dK
theorem fT:TabOK Tryz.prog (Ad pu dL):=R1 fS tD
end Go.Proofs.YtfilfloanndddaaGreat.Pt
