/- The evaluator comes to each of the plain functions. No condition. -/
import Derived.Test.YtfilfloanndddaaGreatPt0
set_option linter.all false
namespace Go.Proofs.YtfilfloanndddaaGreat.Pt
open Go Go.Proofs.YtfilfloanndddaaGreat.Sv Go.Proofs.YtfilfloanndddaaGreat.Pl
set_option maxRecDepth 1000000
set_option linter.unusedVariables false
theorem pL (x:AP [(true,T4),zI]):OE Tryz.prog (Ad pu hC) (Qq []) 3000 60 110 [(true,T4),zI] [(false,.bool),zI] x=W7 x:=by kernel_rfl
def iB:List (FuncId×Sg):=(110,⟨[(true,T4),zI],[(false,.bool),zI],W7⟩)::hC
theorem iC:TabOK Tryz.prog (Ad pu iB):=R1 iA pL
theorem tG (x:AP [(true,T4),zI]):OE Tryz.prog (Ad pu iB) (Qq []) 3000 60 67 [(true,T4),zI] [(false,.bool)] x=Tn x:=by kernel_rfl
def iD:List (FuncId×Sg):=(67,⟨[(true,T4),zI],[(false,.bool)],Tn⟩)::iB
theorem iE:TabOK Tryz.prog (Ad pu iD):=R1 iC tG
def nq:List (Nat×Nat×Nat×An):=[(157,6,9,.loop { keep:=[0,7,11,9,8,12,10],kb:=[],pl:=[.slot 3 false zJ,.slot 2 false zJ,.slot 4 false zJ],ex:=[(.ret,[]),(.exit 0,[])],pay:=.unit })]
theorem qG (x:AP [(false,(.sl false (.sl true T2)))]):OE Tryz.prog (Ad pu iD) (Qq nq) 3000 60 157 [(false,(.sl false (.sl true T2)))] [zI,zI] x=VS x:=by kernel_rfl
def iF:List (FuncId×Sg):=(157,⟨[(false,(.sl false (.sl true T2)))],[zI,zI],VS⟩)::iD
theorem iG:TabOK Tryz.prog (Ad pu iF):=R1 iE qG
def oL:List (Nat×Nat×Nat×An):=[(202,6,8,.loop { keep:=[0,7,5,9,4,8,6],kb:=[],pl:=[.slot 3 false zJ,.slot 2 false zJ],ex:=[(.ret,[]),(.exit 0,[])],pay:=.unit })]
theorem qo (x:AP [(false,(.sl true T5))]):OE Tryz.prog (Ad pu iF) (Qq oL) 3000 60 202 [(false,(.sl true T5))] [zI] x=WR x:=by kernel_rfl
def iH:List (FuncId×Sg):=(202,⟨[(false,(.sl true T5))],[zI],WR⟩)::iF
theorem iI:TabOK Tryz.prog (Ad pu iH):=R1 iG qo
theorem rL (x:AP [(false,(.sl true T5)),zI,zI]):OE Tryz.prog (Ad pu iH) (Qq []) 3000 60 231 [(false,(.sl true T5)),zI,zI] [(false,.bool)] x=WF x:=by kernel_rfl
def iJ:List (FuncId×Sg):=(231,⟨[(false,(.sl true T5)),zI,zI],[(false,.bool)],WF⟩)::iH
theorem iK:TabOK Tryz.prog (Ad pu iJ):=R1 iI rL
theorem rC (r:AP [(false,(.sl true T5)),zI]->Option (AP [zI,zI])) (x:AP [(false,(.sl true T5)),zI]):OE Tryz.prog (Ad pu ((221,⟨[(false,(.sl true T5)),zI],[zI,zI],r⟩)::iJ)) (Qq []) 3000 60 221 [(false,(.sl true T5)),zI] [zI,zI] x=TY r x:=by kernel_rfl
def iL:List (FuncId×Sg):=(221,⟨[(false,(.sl true T5)),zI],[zI,zI],Mx (α:=AP [(false,(.sl true T5)),zI]) (β:=AP [zI,zI]) TY 100⟩)::iJ
theorem iM:TabOK Tryz.prog (Ad pu iL):=SI iK rC (by rfl) (by rfl) 100
def oM:List (Nat×Nat×Nat×An):=[(203,3,11,.loop { keep:=[0,3,5,9,2,8,6],kb:=[0],pl:=[.slot 4 false zJ,.box 8 [.ow true T5 false,.ow false zJ true,.lf zJ]],ex:=[(.exit 0,[])],pay:=.unit })]
theorem qp (x:AP [(false,(.sl true T5))]):OE Tryz.prog (Ad pu iL) (Qq oM) 3000 60 203 [(false,(.sl true T5))] [(true,T7)] x=Wn x:=by kernel_rfl
def iN:List (FuncId×Sg):=(203,⟨[(false,(.sl true T5))],[(true,T7)],Wn⟩)::iL
theorem iO:TabOK Tryz.prog (Ad pu iN):=R1 iM qp
theorem qZ (x:AP [(false,(.sl true T5))]):OE Tryz.prog (Ad pu iN) (Qq []) 3000 60 186 [(false,(.sl true T5))] [(true,T7),zI] x=Vq x:=by kernel_rfl
def iQ:List (FuncId×Sg):=(186,⟨[(false,(.sl true T5))],[(true,T7),zI],Vq⟩)::iN
theorem iR:TabOK Tryz.prog (Ad pu iQ):=R1 iO qZ
def np:List (Nat×Nat×Nat×An):=[(156,4,12,.loop { keep:=[0,1,15,11,5,9,13,4,12,10,14],kb:=[0,3,8,6],pl:=[.slot 7 false zJ,.srow 6 true T5 false],ex:=[(.exit 0,[])],pay:=.unit })]
theorem qF (x:AP [(false,(.sl false (.sl true T2))),(false,(.sl false zJ))]):OE Tryz.prog (Ad pu iQ) (Qq np) 3000 60 156 [(false,(.sl false (.sl true T2))),(false,(.sl false zJ))] [(true,T9)] x=U1 x:=by kernel_rfl
def iS:List (FuncId×Sg):=(156,⟨[(false,(.sl false (.sl true T2))),(false,(.sl false zJ))],[(true,T9)],U1⟩)::iQ
theorem iT:TabOK Tryz.prog (Ad pu iS):=R1 iR qF
theorem qB (x:AP [(false,(.sl false (.sl true T2)))]):OE Tryz.prog (Ad pu iS) (Qq []) 3000 60 152 [(false,(.sl false (.sl true T2)))] [(true,T9),zI,zI] x=W6 x:=by kernel_rfl
def iU:List (FuncId×Sg):=(152,⟨[(false,(.sl false (.sl true T2)))],[(true,T9),zI,zI],W6⟩)::iS
theorem iV:TabOK Tryz.prog (Ad pu iU):=R1 iT qB
theorem qC (x:AP [(false,.bool)]):OE Tryz.prog (Ad pu iU) (Qq []) 3000 60 153 [(false,.bool)] [(true,Zh)] x=U2 x:=by kernel_rfl
def iW:List (FuncId×Sg):=(153,⟨[(false,.bool)],[(true,Zh)],U2⟩)::iU
theorem iX:TabOK Tryz.prog (Ad pu iW):=R1 iV qC
theorem pM (x:AP [(false,(.sl false (.sl true T2))),(false,.bool)]):OE Tryz.prog (Ad pu iW) (Qq []) 3000 60 111 [(false,(.sl false (.sl true T2))),(false,.bool)] [(true,Xg),zI,zI] x=WT x:=by kernel_rfl
def iY:List (FuncId×Sg):=(111,⟨[(false,(.sl false (.sl true T2))),(false,.bool)],[(true,Xg),zI,zI],WT⟩)::iW
theorem iZ:TabOK Tryz.prog (Ad pu iY):=R1 iX pM
theorem tH (x:AP [(true,T4),zI,(false,.bool)]):OE Tryz.prog (Ad pu iY) (Qq []) 3000 60 68 [(true,T4),zI,(false,.bool)] [(true,Yn)] x=TU x:=by kernel_rfl
def ib:List (FuncId×Sg):=(68,⟨[(true,T4),zI,(false,.bool)],[(true,Yn)],TU⟩)::iY
theorem ic:TabOK Tryz.prog (Ad pu ib):=R1 iZ tH
def pG:List (Nat×Nat×Nat×An):=[(96,7,25,.loop { keep:=[0,1,3,7,15,23,11,5,17,25,13,21,2,4,8,16,24,12,20,6,10,26,14,22],kb:=[0,1],pl:=[.slot 9 false zJ,.box 19 [.lf zJ,.lf (.sl true (.sl true T3)),.ow true Yn false,.lf zJ]],ex:=[(.exit 0,[])],pay:=.unit })]
theorem tT (x:AP [(true,T4)]):OE Tryz.prog (Ad pu ib) (Qq pG) 3000 60 96 [(true,T4)] [(true,Vt),zI] x=Ye x:=by kernel_rfl
def ie:List (FuncId×Sg):=(96,⟨[(true,T4)],[(true,Vt),zI],Ye⟩)::ib
theorem ig:TabOK Tryz.prog (Ad pu ie):=R1 ic tT
end Go.Proofs.YtfilfloanndddaaGreat.Pt
