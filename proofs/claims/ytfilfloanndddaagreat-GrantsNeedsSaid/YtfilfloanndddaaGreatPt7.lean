/- The evaluator comes to each of the plain functions. No condition. -/
import Derived.Test.YtfilfloanndddaaGreatPt6
set_option linter.all false
namespace Go.Proofs.YtfilfloanndddaaGreat.Pt
open Go Go.Proofs.YtfilfloanndddaaGreat.Sv Go.Proofs.YtfilfloanndddaaGreat.Pl
set_option maxRecDepth 1000000
set_option linter.unusedVariables false
def nI:List (Nat×Nat×Nat×An):=[(198,1,31,.loop { keep:=[0,1,7,8,6],kb:=[0,1,25,21,26],pl:=[.slot 9 false zJ,.box 2 [.lf zJ,.ow true (.sl true T3) false],.box 3 [.lf zJ]],ex:=[(.exit 0,[(26,0,none)]),(.ret,[(26,2,some .ret)])],pay:=.unit }),(198,4,41,.loop { keep:=[0,1,7,15,11,9,13,4,8,16,12,6,10,14],kb:=[0,1,3,25,21,34,26],pl:=[.slot 5 false zJ,.box 2 [.lf zJ,.ow true (.sl true T3) false]],ex:=[(.exit 2,[(26,0,none)])],pay:=.unit }),(198,4,42,.loop { keep:=[0,1,7,15,11,9,13,4,8,16,12,6,10,14],kb:=[0,1,35,25,21,26],pl:=[.slot 5 false zJ,.box 2 [.lf zJ,.ow true (.sl true T3) false],.box 3 [.lf zJ]],ex:=[(.exit 2,[(26,0,none)]),(.ret,[(26,2,some .ret)])],pay:=.unit })]
theorem pW (x:AP [(true,T4),zI,(true,T3)]):OE Tryz.prog (Ad pu lN) (Qq nI) 3000 60 140 [(true,T4),zI,(true,T3)] [(true,T4),zI] x=Tp x:=by kernel_rfl
def lQ:List (FuncId×Sg):=(140,⟨[(true,T4),zI,(true,T3)],[(true,T4),zI],Tp⟩)::lN
theorem lR:TabOK Tryz.prog (Ad pu lQ):=R1 lO pW
theorem qM (x:AP [(true,T4),zI]):OE Tryz.prog (Ad pu lQ) (Qq []) 3000 60 179 [(true,T4),zI] [(true,Xw),zI] x=Wg x:=by kernel_rfl
def lS:List (FuncId×Sg):=(179,⟨[(true,T4),zI],[(true,Xw),zI],Wg⟩)::lQ
theorem lT:TabOK Tryz.prog (Ad pu lS):=R1 lR qM
def nJ:List (Nat×Nat×Nat×An):=[(141,3,10,.loop { keep:=[0,1,3,19,5,9,21,2,4,8,20,10,22],kb:=[0,1,2],pl:=[.slot 23 false zJ,.map 4 zJ true Xw],ex:=[(.exit 0,[])],pay:=.unit }),(141,10,22,.loop { keep:=[0,1,3,23,39,19,35,5,33,13,21,37,2,4,8,32,20,36,10,34,22,38],kb:=[0,1,4],pl:=[.slot 9 false zJ,.slot 40 false zJ,.box 2 [.lf zJ,.ow true (.sl true T3) false,.ow true Xw false,.lf zJ],.box 16 [.lf zJ,.lf (.sl true (.sl true T3)),.ow true Xw false,.lf zJ]],ex:=[(.exit 2,[]),(.ret,[])],pay:=.unit })]
theorem pX (x:AP [(true,Ub),(true,T4),zI,zI]):OE Tryz.prog (Ad pu lS) (Qq nJ) 3000 60 141 [(true,Ub),(true,T4),zI,zI] [(true,Ub),zI] x=Ta x:=by kernel_rfl
def cG:List (FuncId×Sg):=(141,⟨[(true,Ub),(true,T4),zI,zI],[(true,Ub),zI],Ta⟩)::lS
theorem eR:TabOK Tryz.prog (Ad pu cG):=R1 lT pX
theorem tU (x:AP [(true,Ub),zI]):OE Tryz.prog (Ad pu cG) (Qq []) 3000 60 95 [(true,Ub),zI] [(true,Ub),zI] x=VB x:=by kernel_rfl
def cI:List (FuncId×Sg):=(95,⟨[(true,Ub),zI],[(true,Ub),zI],VB⟩)::cG
theorem eU:TabOK Tryz.prog (Ad pu cI):=R1 eR tU
theorem sf (x:AP [(true,Ub),zI]):OE Tryz.prog (Ad pu cI) (Qq []) 3000 60 42 [(true,Ub),zI] [(true,Ub),(false,.bool),zI] x=Tq x:=by kernel_rfl
def cJ:List (FuncId×Sg):=(42,⟨[(true,Ub),zI],[(true,Ub),(false,.bool),zI],Tq⟩)::cI
theorem eV:TabOK Tryz.prog (Ad pu cJ):=R1 eU sf
theorem sj (x:AP [(true,oT)]):OE Tryz.prog (Ad pu cJ) (Qq []) 3000 60 47 [(true,oT)] [] x=Wf x:=by kernel_rfl
def cK:List (FuncId×Sg):=(47,⟨[(true,oT)],[],Wf⟩)::cJ
theorem eW:TabOK Tryz.prog (Ad pu cK):=R1 eV sj
def oV:List (Nat×Nat×Nat×An):=[(101,0,47,.loop { keep:=[0,1],kb:=[0,1,35,41,13,45,2,36,34,46],pl:=[],ex:=[],pay:=.unit }),(101,0,68,.loop { keep:=[0,1],kb:=[0,1,55,67,13,2,56,66,62],pl:=[.box 46 [.lf zJ,.lf (.sl true (.sl true T3)),.lf (.sl true Xw),.lf zJ,.lf zJ],.box 57 [.lf zJ,.lf zJ,.lf zJ,.lf zJ,.lf zJ,.lf zJ,.lf zJ,.lf zJ,.lf zJ,.lf zJ,.lf zJ,.lf zJ,.lf zJ,.lf zJ,.lf zJ]],ex:=[(.ret,[(67,0,none)]),(.ret,[(67,2,some (.exit 0))])],pay:=.unit })]
theorem sU (x:AP [(true,Ub),zI]):OE Tryz.prog (Ad pu cK) (Qq oV) 3000 60 14 [(true,Ub),zI] [(true,Ub),(true,rn),zI] x=XO x:=by kernel_rfl
def cL:List (FuncId×Sg):=(14,⟨[(true,Ub),zI],[(true,Ub),(true,rn),zI],XO⟩)::cK
theorem eX:TabOK Tryz.prog (Ad pu cL):=R1 eW sU
def oW:List (Nat×Nat×Nat×An):=[(101,0,47,.loop { keep:=[0,1],kb:=[0,35,41,29,45,12,36,34,46],pl:=[],ex:=[],pay:=.unit }),(101,0,68,.loop { keep:=[0,1],kb:=[0,55,67,56,12,66,62],pl:=[.box 45 [.lf zJ,.lf (.sl true (.sl true T3)),.lf (.sl true Xw),.lf zJ,.lf zJ],.box 50 [.ow false zJ false],.box 57 [.lf zJ,.lf zJ,.lf zJ,.lf zJ,.lf zJ,.lf zJ,.lf zJ,.lf zJ,.lf zJ,.lf zJ,.lf zJ,.lf zJ,.lf zJ,.lf zJ,.lf zJ]],ex:=[(.ret,[(67,0,none)]),(.ret,[(67,2,some (.exit 0))])],pay:=.unit })]
theorem sV (x:AP [(true,Ub),zI]):OE Tryz.prog (Ad pu cL) (Qq oW) 3000 60 17 [(true,Ub),zI] [(false,(.sl false zJ)),zI] x=XN x:=by kernel_rfl
def cM:List (FuncId×Sg):=(17,⟨[(true,Ub),zI],[(false,(.sl false zJ)),zI],XN⟩)::cL
theorem eY:TabOK Tryz.prog (Ad pu cM):=R1 eX sV
def oX:List (Nat×Nat×Nat×An):=[(101,0,52,.loop { keep:=[0,1],kb:=[0,1,3,11,51,2,50,46],pl:=[],ex:=[],pay:=.unit }),(101,0,61,.loop { keep:=[0,1],kb:=[0,1,55,11,59,60],pl:=[.box 32 [.lf zJ,.lf (.sl true (.sl true T3)),.lf (.sl true Xw),.lf zJ,.lf zJ],.box 2 [.lf zJ],.box 3 [.lf zJ]],ex:=[(.ret,[(60,0,none)]),(.ret,[(60,2,some .ret)])],pay:=.unit })]
theorem sW (x:AP [(true,Ub),zI]):OE Tryz.prog (Ad pu cM) (Qq oX) 3000 60 20 [(true,Ub),zI] [zI,zI] x=Vm x:=by kernel_rfl
def cN:List (FuncId×Sg):=(20,⟨[(true,Ub),zI],[zI,zI],Vm⟩)::cM
theorem eZ:TabOK Tryz.prog (Ad pu cN):=R1 eY sW
theorem sT (x:AP []):OE Tryz.prog (Ad pu cN) (Qq []) 3000 60 13 [] [(false,.bool)] x=WM x:=by kernel_rfl
def cO:List (FuncId×Sg):=(13,⟨[],[(false,.bool)],WM⟩)::cN
theorem ec:TabOK Tryz.prog (Ad pu cO):=R1 eZ sT
def nT:List (Nat×Nat×Nat×An):=[(159,4,7,.loop { keep:=[0,1,7,9,8,6,10],kb:=[],pl:=[.slot 5 false zJ,.slot 4 false .bool],ex:=[(.ret,[]),(.exit 0,[])],pay:=.unit })]
theorem qB (x:AP [(false,(.sl false zJ)),(false,(.sl false zJ))]):OE Tryz.prog (Ad pu cO) (Qq nT) 3000 60 159 [(false,(.sl false zJ)),(false,(.sl false zJ))] [(false,.bool)] x=Wj x:=by kernel_rfl
def cQ:List (FuncId×Sg):=(159,⟨[(false,(.sl false zJ)),(false,(.sl false zJ))],[(false,.bool)],Wj⟩)::cO
theorem ef:TabOK Tryz.prog (Ad pu cQ):=R1 ec qB
def nU:List (Nat×Nat×Nat×An):=[(160,4,26,.loop { keep:=[0,1,3,7,15,23,11,19,27,9,17,25,13,21,2,8,16,24,12,20,6,10,18,26,14,22],kb:=[0,1],pl:=[.slot 5 false zJ,.slot 4 false .bool],ex:=[(.ret,[]),(.exit 0,[])],pay:=.unit })]
theorem qC (x:AP [(true,T7),(true,T7)]):OE Tryz.prog (Ad pu cQ) (Qq nU) 3000 60 160 [(true,T7),(true,T7)] [(false,.bool)] x=WB x:=by kernel_rfl
def cR:List (FuncId×Sg):=(160,⟨[(true,T7),(true,T7)],[(false,.bool)],WB⟩)::cQ
theorem eh:TabOK Tryz.prog (Ad pu cR):=R1 ef qC
def nO:List (Nat×Nat×Nat×An):=[(155,3,3,.loop { keep:=[0,1,4],kb:=[],pl:=[.slot 5 false zJ,.slot 6 false zJ],ex:=[(.exit 0,[])],pay:=.unit })]
theorem pz (x:AP [(false,(.sl false (.sl true T2))),(false,(.sl false zJ))]):OE Tryz.prog (Ad pu cR) (Qq nO) 3000 60 155 [(false,(.sl false (.sl true T2))),(false,(.sl false zJ))] [zI] x=VN x:=by kernel_rfl
def cS:List (FuncId×Sg):=(155,⟨[(false,(.sl false (.sl true T2))),(false,(.sl false zJ))],[zI],VN⟩)::cR
theorem ei:TabOK Tryz.prog (Ad pu cS):=R1 eh pz
def nN:List (Nat×Nat×Nat×An):=[(154,7,21,.loop { keep:=[0,1,15,23,11,27,5,17,25,13,21,4,16,24,12,18,26,14,22],kb:=[0],pl:=[.slot 3 false zJ,.slot 2 false zJ,.slot 6 false zJ],ex:=[(.ret,[]),(.exit 0,[])],pay:=.unit }),(154,15,38,.loop { keep:=[0,1,7,15,63,23,11,67,27,59,5,17,65,25,57,13,21,69,61,4,16,64,24,56,12,68,60,6,18,66,26,58,14,22,70,62],kb:=[0],pl:=[.slot 3 false zJ,.slot 2 false zJ,.slot 8 false zJ],ex:=[(.ret,[]),(.exit 2,[])],pay:=.unit })]
theorem py (x:AP [(true,T9)]):OE Tryz.prog (Ad pu cS) (Qq nN) 3000 60 154 [(true,T9)] [zI,zI] x=VM x:=by kernel_rfl
def cU:List (FuncId×Sg):=(154,⟨[(true,T9)],[zI,zI],VM⟩)::cS
theorem ej:TabOK Tryz.prog (Ad pu cU):=R1 ei py
end Go.Proofs.YtfilfloanndddaaGreat.Pt
