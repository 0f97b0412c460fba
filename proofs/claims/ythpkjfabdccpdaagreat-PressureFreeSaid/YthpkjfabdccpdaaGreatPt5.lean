/- The evaluator comes to each of the plain functions. No condition. -/
import Derived.Test.YthpkjfabdccpdaaGreatPt4
set_option linter.all false
namespace Go.Proofs.YthpkjfabdccpdaaGreat.Pt
open Go Go.Proofs.YthpkjfabdccpdaaGreat.Sv Go.Proofs.YthpkjfabdccpdaaGreat.Pl
set_option maxRecDepth 1000000
set_option linter.unusedVariables false
theorem nF (x:AG [(true,T3),(false,(.sl true T2))]):Ac Tryz.prog (AC pu cu) (AI []) 3000 60 205 [(true,T3),(false,(.sl true T2))] [(false,.bool),zI] x=Dc x:=by kernel_rfl
def cw:List (FuncId×Sg):=(205,⟨[(true,T3),(false,(.sl true T2))],[(false,.bool),zI],Dc⟩)::cu
theorem cx:TabOK Tryz.prog (AC pu cw):=AF cv nF
theorem nG (x:AG [(true,T3),(false,(.sl true T2))]):Ac Tryz.prog (AC pu cw) (AI []) 3000 60 140 [(true,T3),(false,(.sl true T2))] [(true,T3),zI,zI] x=C9 x:=by kernel_rfl
def cy:List (FuncId×Sg):=(140,⟨[(true,T3),(false,(.sl true T2))],[(true,T3),zI,zI],C9⟩)::cw
theorem cz:TabOK Tryz.prog (AC pu cy):=AF cx nG
theorem nH (x:AG [(true,Kh)]):Ac Tryz.prog (AC pu cy) (AI []) 3000 60 142 [(true,Kh)] [(true,Kh)] x=CE x:=by kernel_rfl
def c0:List (FuncId×Sg):=(142,⟨[(true,Kh)],[(true,Kh)],CE⟩)::cy
theorem dA:TabOK Tryz.prog (AC pu c0):=AF cz nH
theorem nI (x:AG [(true,T4),zI]):Ac Tryz.prog (AC pu c0) (AI []) 3000 60 169 [(true,T4),zI] [zI] x=Fc x:=by kernel_rfl
def dB:List (FuncId×Sg):=(169,⟨[(true,T4),zI],[zI],Fc⟩)::c0
theorem dC:TabOK Tryz.prog (AC pu dB):=AF dA nI
theorem nJ (x:AG [(true,T4),zI]):Ac Tryz.prog (AC pu dB) (AI []) 3000 60 108 [(true,T4),zI] [(false,.bool),zI] x=CY x:=by kernel_rfl
def dD:List (FuncId×Sg):=(108,⟨[(true,T4),zI],[(false,.bool),zI],CY⟩)::dB
theorem dE:TabOK Tryz.prog (AC pu dD):=AF dC nJ
def kO:List (Nat×Nat×Nat×An):=[(171,5,30,.loop { keep:=[0,1,3,7,15,31,23,11,19,27,9,17,25,13,21,29,2,16,32,24,12,20,28,6,10,18,26,14,22,30],kb:=[0,1,12,10],pl:=[.slot 8 false zJ],ex:=[(.exit 0,[])],pay:=.unit })]
theorem nK (x:AG [(true,T4),zI,(false,(.sl true T3))]):Ac Tryz.prog (AC pu dD) (AI kO) 3000 60 171 [(true,T4),zI,(false,(.sl true T3))] [(true,T4)] x=EK x:=by kernel_rfl
def dF:List (FuncId×Sg):=(171,⟨[(true,T4),zI,(false,(.sl true T3))],[(true,T4)],EK⟩)::dD
theorem dG:TabOK Tryz.prog (AC pu dF):=AF dE nK
def nL:List (Nat×Nat×Nat×An):=[(199,1,31,.loop { keep:=[0,1,7,8,6],kb:=[0,1,25,21,26],pl:=[.slot 9 false zJ,.box 2 [.lf zJ,.ow true (.sl true T3) false],.box 3 [.lf zJ]],ex:=[(.exit 0,[(26,0,none)]),(.ret,[(26,2,some .ret)])],pay:=.unit }),(199,4,41,.loop { keep:=[0,1,7,15,11,9,13,4,8,16,12,6,10,14],kb:=[0,1,3,25,21,34,26],pl:=[.slot 5 false zJ,.box 2 [.lf zJ,.ow true (.sl true T3) false]],ex:=[(.exit 2,[(26,0,none)])],pay:=.unit }),(199,4,42,.loop { keep:=[0,1,7,15,11,9,13,4,8,16,12,6,10,14],kb:=[0,1,35,25,21,26],pl:=[.slot 5 false zJ,.box 2 [.lf zJ,.ow true (.sl true T3) false],.box 3 [.lf zJ]],ex:=[(.exit 2,[(26,0,none)]),(.ret,[(26,2,some .ret)])],pay:=.unit })]
theorem o9 (x:AG [(true,T4),zI,(true,T3)]):Ac Tryz.prog (AC pu dF) (AI nL) 3000 60 93 [(true,T4),zI,(true,T3)] [(true,T4),zI] x=DH x:=by kernel_rfl
def dH:List (FuncId×Sg):=(93,⟨[(true,T4),zI,(true,T3)],[(true,T4),zI],DH⟩)::dF
theorem dI:TabOK Tryz.prog (AC pu dH):=AF dG o9
theorem nM (x:AG [(true,T4),zI]):Ac Tryz.prog (AC pu dH) (AI []) 3000 60 173 [(true,T4),zI] [(true,WS),zI] x=GE x:=by kernel_rfl
def dJ:List (FuncId×Sg):=(173,⟨[(true,T4),zI],[(true,WS),zI],GE⟩)::dH
theorem dK:TabOK Tryz.prog (AC pu dJ):=AF dI nM
def nN:List (Nat×Nat×Nat×An):=[(94,3,10,.loop { keep:=[0,1,3,19,5,9,21,2,4,8,20,10,22],kb:=[0,1,2],pl:=[.slot 23 false zJ,.map 4 zJ true WS],ex:=[(.exit 0,[])],pay:=.unit }),(94,10,22,.loop { keep:=[0,1,3,23,39,19,35,5,33,13,21,37,2,4,8,32,20,36,10,34,22,38],kb:=[0,1,4],pl:=[.slot 9 false zJ,.slot 40 false zJ,.box 2 [.lf zJ,.ow true (.sl true T3) false,.ow true WS false,.lf zJ],.box 16 [.lf zJ,.lf (.sl true (.sl true T3)),.ow true WS false,.lf zJ]],ex:=[(.exit 2,[]),(.ret,[])],pay:=.unit })]
theorem pA (x:AG [(true,O1),(true,T4),zI,zI]):Ac Tryz.prog (AC pu dJ) (AI nN) 3000 60 94 [(true,O1),(true,T4),zI,zI] [(true,O1),zI] x=Do x:=by kernel_rfl
def dL:List (FuncId×Sg):=(94,⟨[(true,O1),(true,T4),zI,zI],[(true,O1),zI],Do⟩)::dJ
theorem dM:TabOK Tryz.prog (AC pu dL):=AF dK pA
theorem pB (x:AG [(true,O1),(false,(.sl true T2))]):Ac Tryz.prog (AC pu dL) (AI []) 3000 60 36 [(true,O1),(false,(.sl true T2))] [(true,O1),zI] x=Dp x:=by kernel_rfl
def dN:List (FuncId×Sg):=(36,⟨[(true,O1),(false,(.sl true T2))],[(true,O1),zI],Dp⟩)::dL
theorem dO:TabOK Tryz.prog (AC pu dN):=AF dM pB
def nO:List (Nat×Nat×Nat×An):=[(133,4,72,.loop { keep:=[0,1,7,15,11,19,9,17,25,13,21,2,8,16,24,12,20,10,18,14,22],kb:=[0,1,3,7,9,52,10],pl:=[.slot 26 false zJ],ex:=[(.pan 230 true zJ,[]),(.exit 0,[])],pay:=zJ }),(133,9,76,.loop { keep:=[0,1,7,15,11,19,35,9,17,25,13,21,2,8,16,24,12,20,36,10,18,34,26,14,22],kb:=[0,1,3,7,9,52,10],pl:=[.slot 37 false zJ],ex:=[(.pan 230 true zJ,[]),(.exit 2,[])],pay:=zJ })]
theorem pC (x:AG [(true,Kh),(false,(.sl true T2))]):Ac Tryz.prog (AC pu dN) (AI nO) 3000 60 58 [(true,Kh),(false,(.sl true T2))] [(true,Kh),zI,zI] x=BC x:=by kernel_rfl
def dQ:List (FuncId×Sg):=(58,⟨[(true,Kh),(false,(.sl true T2))],[(true,Kh),zI,zI],BC⟩)::dN
theorem dR:TabOK Tryz.prog (AC pu dQ):=AF dO pC
def nQ:List (Nat×Nat×Nat×An):=[(133,4,71,.loop { keep:=[0,1,7,15,11,19,9,17,25,13,21,2,8,16,24,12,20,10,18,14,22],kb:=[0,51,9,2,8,6],pl:=[.slot 26 false zJ],ex:=[(.pan 230 true zJ,[]),(.exit 0,[])],pay:=zJ }),(133,9,75,.loop { keep:=[0,1,7,15,11,19,35,9,17,25,13,21,2,8,16,24,12,20,36,10,18,34,26,14,22],kb:=[0,51,9,2,8,6],pl:=[.slot 37 false zJ],ex:=[(.pan 230 true zJ,[]),(.exit 2,[])],pay:=zJ })]
theorem pD (x:AG [(true,Kh),(false,(.sl true T2))]):Ac Tryz.prog (AC pu dQ) (AI nQ) 3000 60 52 [(true,Kh),(false,(.sl true T2))] [(false,.bool),zI] x=GZ x:=by kernel_rfl
def dS:List (FuncId×Sg):=(52,⟨[(true,Kh),(false,(.sl true T2))],[(false,.bool),zI],GZ⟩)::dQ
theorem dT:TabOK Tryz.prog (AC pu dS):=AF dR pD
def nR:List (Nat×Nat×Nat×An):=[(133,4,71,.loop { keep:=[0,1,7,15,11,19,9,17,25,13,21,2,8,16,24,12,20,10,18,14,22],kb:=[0,51,9,2,8,6],pl:=[.slot 26 false zJ],ex:=[(.pan 230 true zJ,[]),(.exit 0,[])],pay:=zJ }),(133,9,75,.loop { keep:=[0,1,7,15,11,19,35,9,17,25,13,21,2,8,16,24,12,20,36,10,18,34,26,14,22],kb:=[0,51,9,2,8,6],pl:=[.slot 37 false zJ],ex:=[(.pan 230 true zJ,[]),(.exit 2,[])],pay:=zJ })]
theorem pE (x:AG [(true,Kh),(false,(.sl true T2))]):Ac Tryz.prog (AC pu dS) (AI nR) 3000 60 54 [(true,Kh),(false,(.sl true T2))] [(false,.bool),zI] x=Gy x:=by kernel_rfl
def dU:List (FuncId×Sg):=(54,⟨[(true,Kh),(false,(.sl true T2))],[(false,.bool),zI],Gy⟩)::dS
theorem dV:TabOK Tryz.prog (AC pu dU):=AF dT pE
def nS:List (Nat×Nat×Nat×An):=[(46,1003003,15,.join { keep:=[0,1,3,23,27,25,21,2,4,24,20,28,26,22],kb:=[5],pl0:=[],pl1:=[.slot 38 false .bool],ex:=[],pay:=.unit }),(46,8,22,.loop { keep:=[1,3,23,39,27,5,25,21,2,4,24,40,20,28,6,26,22,38],kb:=[19,16],pl:=[.slot 0 false .bool,.slot 7 false zJ,.box 5 [.lf zJ,.lf (.sl true T2),.lf zJ,.lf (.sl true (.sl true T3)),.lf (.sl true WS),.lf zJ]],ex:=[(.exit 0,[]),(.ret,[])],pay:=.unit }),(46,1010013,24,.join { keep:=[1,3,7,23,39,27,5,25,41,21,2,4,24,40,20,28,6,26,42,22,38],kb:=[19,16],pl0:=[.slot 0 false .bool,.box 5 [.lf zJ,.lf (.sl true T2),.lf zJ,.lf (.sl true (.sl true T3)),.lf (.sl true WS),.lf zJ]],pl1:=[.slot 0 false .bool,.box 5 [.lf zJ,.lf (.sl true T2),.lf zJ,.lf (.sl true (.sl true T3)),.lf (.sl true WS),.lf zJ]],ex:=[(.ret,[])],pay:=.unit }),(46,1011011,41,.join { keep:=[0,1,3,7,47,23,39,55,51,27,5,9,49,25,41,57,21,53,45,2,4,8,48,24,40,56,20,52,28,6,10,50,26,42,22,38,54,46],kb:=[19,5,37,16],pl0:=[],pl1:=[.slot 66 false .bool],ex:=[],pay:=.unit })]
theorem pF (x:AG []):Ac Tryz.prog (AC pu dU) (AI nS) 3000 60 46 [] [(false,.bool)] x=Bb x:=by kernel_rfl
def dW:List (FuncId×Sg):=(46,⟨[],[(false,.bool)],Bb⟩)::dU
theorem dX:TabOK Tryz.prog (AC pu dW):=AF dV pF
end Go.Proofs.YthpkjfabdccpdaaGreat.Pt
