/- The evaluator comes to each of the plain functions. No condition. -/
import Derived.Test.YtfilfloanndddaaGreatPt0
set_option linter.all false
namespace Go.Proofs.YtfilfloanndddaaGreat.Pt
open Go Go.Proofs.YtfilfloanndddaaGreat.Sv Go.Proofs.YtfilfloanndddaaGreat.Pl
set_option maxRecDepth 1000000
set_option linter.unusedVariables false
theorem pG (x:AP [(true,T4),zI]):OE Tryz.prog (Ad pu gj) (Qq []) 3000 60 110 [(true,T4),zI] [(false,.bool),zI] x=W5 x:=by kernel_rfl
def gp:List (FuncId×Sg):=(110,⟨[(true,T4),zI],[(false,.bool),zI],W5⟩)::gj
theorem gq:TabOK Tryz.prog (Ad pu gp):=R1 gn pG
theorem tB (x:AP [(true,T4),zI]):OE Tryz.prog (Ad pu gp) (Qq []) 3000 60 67 [(true,T4),zI] [(false,.bool)] x=Tn x:=by kernel_rfl
def gr:List (FuncId×Sg):=(67,⟨[(true,T4),zI],[(false,.bool)],Tn⟩)::gp
theorem gu:TabOK Tryz.prog (Ad pu gr):=R1 gq tB
def nX:List (Nat×Nat×Nat×An):=[(157,6,9,.loop { keep:=[0,7,11,9,8,12,10],kb:=[],pl:=[.slot 3 false zJ,.slot 2 false zJ,.slot 4 false zJ],ex:=[(.ret,[]),(.exit 0,[])],pay:=.unit })]
theorem qB (x:AP [(false,(.sl false (.sl true T2)))]):OE Tryz.prog (Ad pu gr) (Qq nX) 3000 60 157 [(false,(.sl false (.sl true T2)))] [zI,zI] x=VT x:=by kernel_rfl
def gv:List (FuncId×Sg):=(157,⟨[(false,(.sl false (.sl true T2)))],[zI,zI],VT⟩)::gr
theorem gw:TabOK Tryz.prog (Ad pu gv):=R1 gu qB
def oA:List (Nat×Nat×Nat×An):=[(202,6,8,.loop { keep:=[0,7,5,9,4,8,6],kb:=[],pl:=[.slot 3 false zJ,.slot 2 false zJ],ex:=[(.ret,[]),(.exit 0,[])],pay:=.unit })]
theorem qj (x:AP [(false,(.sl true T5))]):OE Tryz.prog (Ad pu gv) (Qq oA) 3000 60 202 [(false,(.sl true T5))] [zI] x=WQ x:=by kernel_rfl
def gx:List (FuncId×Sg):=(202,⟨[(false,(.sl true T5))],[zI],WQ⟩)::gv
theorem gy:TabOK Tryz.prog (Ad pu gx):=R1 gw qj
theorem rG (x:AP [(false,(.sl true T5)),zI,zI]):OE Tryz.prog (Ad pu gx) (Qq []) 3000 60 231 [(false,(.sl true T5)),zI,zI] [(false,.bool)] x=WB x:=by kernel_rfl
def gz:List (FuncId×Sg):=(231,⟨[(false,(.sl true T5)),zI,zI],[(false,.bool)],WB⟩)::gx
theorem g9:TabOK Tryz.prog (Ad pu gz):=R1 gy rG
theorem qx (r:AP [(false,(.sl true T5)),zI]->Option (AP [zI,zI])) (x:AP [(false,(.sl true T5)),zI]):OE Tryz.prog (Ad pu ((221,⟨[(false,(.sl true T5)),zI],[zI,zI],r⟩)::gz)) (Qq []) 3000 60 221 [(false,(.sl true T5)),zI] [zI,zI] x=TV r x:=by kernel_rfl
def hC:List (FuncId×Sg):=(221,⟨[(false,(.sl true T5)),zI],[zI,zI],Mx (α:=AP [(false,(.sl true T5)),zI]) (β:=AP [zI,zI]) TV 100⟩)::gz
theorem hG:TabOK Tryz.prog (Ad pu hC):=SI g9 qx (by rfl) (by rfl) 100
def oB:List (Nat×Nat×Nat×An):=[(203,3,11,.loop { keep:=[0,3,5,9,2,8,6],kb:=[0],pl:=[.slot 4 false zJ,.box 8 [.ow true T5 false,.ow false zJ true,.lf zJ]],ex:=[(.exit 0,[])],pay:=.unit })]
theorem qk (x:AP [(false,(.sl true T5))]):OE Tryz.prog (Ad pu hC) (Qq oB) 3000 60 203 [(false,(.sl true T5))] [(true,T7)] x=Wo x:=by kernel_rfl
def iA:List (FuncId×Sg):=(203,⟨[(false,(.sl true T5))],[(true,T7)],Wo⟩)::hC
theorem iB:TabOK Tryz.prog (Ad pu iA):=R1 hG qk
theorem qU (x:AP [(false,(.sl true T5))]):OE Tryz.prog (Ad pu iA) (Qq []) 3000 60 186 [(false,(.sl true T5))] [(true,T7),zI] x=Vo x:=by kernel_rfl
def iC:List (FuncId×Sg):=(186,⟨[(false,(.sl true T5))],[(true,T7),zI],Vo⟩)::iA
theorem iD:TabOK Tryz.prog (Ad pu iC):=R1 iB qU
def nV:List (Nat×Nat×Nat×An):=[(156,4,12,.loop { keep:=[0,1,15,11,5,9,13,4,12,10,14],kb:=[0,3,8,6],pl:=[.slot 7 false zJ,.srow 6 true T5 false],ex:=[(.exit 0,[])],pay:=.unit })]
theorem qA (x:AP [(false,(.sl false (.sl true T2))),(false,(.sl false zJ))]):OE Tryz.prog (Ad pu iC) (Qq nV) 3000 60 156 [(false,(.sl false (.sl true T2))),(false,(.sl false zJ))] [(true,T9)] x=Uz x:=by kernel_rfl
def iE:List (FuncId×Sg):=(156,⟨[(false,(.sl false (.sl true T2))),(false,(.sl false zJ))],[(true,T9)],Uz⟩)::iC
theorem iF:TabOK Tryz.prog (Ad pu iE):=R1 iD qA
theorem py (x:AP [(false,(.sl false (.sl true T2)))]):OE Tryz.prog (Ad pu iE) (Qq []) 3000 60 152 [(false,(.sl false (.sl true T2)))] [(true,T9),zI,zI] x=W4 x:=by kernel_rfl
def iG:List (FuncId×Sg):=(152,⟨[(false,(.sl false (.sl true T2)))],[(true,T9),zI,zI],W4⟩)::iE
theorem iH:TabOK Tryz.prog (Ad pu iG):=R1 iF py
theorem pz (x:AP [(false,.bool)]):OE Tryz.prog (Ad pu iG) (Qq []) 3000 60 153 [(false,.bool)] [(true,Zb)] x=U0 x:=by kernel_rfl
def iI:List (FuncId×Sg):=(153,⟨[(false,.bool)],[(true,Zb)],U0⟩)::iG
theorem iJ:TabOK Tryz.prog (Ad pu iI):=R1 iH pz
theorem pH (x:AP [(false,(.sl false (.sl true T2))),(false,.bool)]):OE Tryz.prog (Ad pu iI) (Qq []) 3000 60 111 [(false,(.sl false (.sl true T2))),(false,.bool)] [(true,Xc),zI,zI] x=WS x:=by kernel_rfl
def iK:List (FuncId×Sg):=(111,⟨[(false,(.sl false (.sl true T2))),(false,.bool)],[(true,Xc),zI,zI],WS⟩)::iI
theorem iL:TabOK Tryz.prog (Ad pu iK):=R1 iJ pH
theorem tC (x:AP [(true,T4),zI,(false,.bool)]):OE Tryz.prog (Ad pu iK) (Qq []) 3000 60 68 [(true,T4),zI,(false,.bool)] [(true,YQ)] x=TT x:=by kernel_rfl
def iM:List (FuncId×Sg):=(68,⟨[(true,T4),zI,(false,.bool)],[(true,YQ)],TT⟩)::iK
theorem iN:TabOK Tryz.prog (Ad pu iM):=R1 iL tC
def pC:List (Nat×Nat×Nat×An):=[(96,7,25,.loop { keep:=[0,1,3,7,15,23,11,5,17,25,13,21,2,4,8,16,24,12,20,6,10,26,14,22],kb:=[0,1],pl:=[.slot 9 false zJ,.box 19 [.lf zJ,.lf (.sl true (.sl true T3)),.ow true YQ false,.lf zJ]],ex:=[(.exit 0,[])],pay:=.unit })]
theorem tN (x:AP [(true,T4)]):OE Tryz.prog (Ad pu iM) (Qq pC) 3000 60 96 [(true,T4)] [(true,WG),zI] x=Yd x:=by kernel_rfl
def iO:List (FuncId×Sg):=(96,⟨[(true,T4)],[(true,WG),zI],Yd⟩)::iM
theorem iQ:TabOK Tryz.prog (Ad pu iO):=R1 iN tN
end Go.Proofs.YtfilfloanndddaaGreat.Pt
