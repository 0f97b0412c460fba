/- The evaluator comes to each of the plain functions. No condition. -/
import Derived.Test.YtfilfloanndddaaGreatPt0
set_option linter.all false
namespace Go.Proofs.YtfilfloanndddaaGreat.Pt
open Go Go.Proofs.YtfilfloanndddaaGreat.Sv Go.Proofs.YtfilfloanndddaaGreat.Pl
set_option maxRecDepth 1000000
set_option linter.unusedVariables false
theorem nR (x:AP [(true,T4),zI]):OE Tryz.prog (Ad pu fh) (Qq []) 3000 60 110 [(true,T4),zI] [(false,.bool),zI] x=Ws x:=by kernel_rfl
def fj:List (FuncId×Sg):=(110,⟨[(true,T4),zI],[(false,.bool),zI],Ws⟩)::fh
theorem fm:TabOK Tryz.prog (Ad pu fj):=R1 fi nR
theorem qX (x:AP [(true,T4),zI]):OE Tryz.prog (Ad pu fj) (Qq []) 3000 60 67 [(true,T4),zI] [(false,.bool)] x=Tk x:=by kernel_rfl
def fo:List (FuncId×Sg):=(67,⟨[(true,T4),zI],[(false,.bool)],Tk⟩)::fj
theorem fq:TabOK Tryz.prog (Ad pu fo):=R1 fm qX
def mJ:List (Nat×Nat×Nat×An):=[(157,6,9,.loop { keep:=[0,7,11,9,8,12,10],kb:=[],pl:=[.slot 3 false zJ,.slot 2 false zJ,.slot 4 false zJ],ex:=[(.ret,[]),(.exit 0,[])],pay:=.unit })]
theorem oA (x:AP [(false,(.sl false (.sl true T2)))]):OE Tryz.prog (Ad pu fo) (Qq mJ) 3000 60 157 [(false,(.sl false (.sl true T2)))] [zI,zI] x=VJ x:=by kernel_rfl
def ft:List (FuncId×Sg):=(157,⟨[(false,(.sl false (.sl true T2)))],[zI,zI],VJ⟩)::fo
theorem fu:TabOK Tryz.prog (Ad pu ft):=R1 fq oA
def mY:List (Nat×Nat×Nat×An):=[(202,6,8,.loop { keep:=[0,7,5,9,4,8,6],kb:=[],pl:=[.slot 3 false zJ,.slot 2 false zJ],ex:=[(.ret,[]),(.exit 0,[])],pay:=.unit })]
theorem od (x:AP [(false,(.sl true T5))]):OE Tryz.prog (Ad pu ft) (Qq mY) 3000 60 202 [(false,(.sl true T5))] [zI] x=WB x:=by kernel_rfl
def fw:List (FuncId×Sg):=(202,⟨[(false,(.sl true T5))],[zI],WB⟩)::ft
theorem fx:TabOK Tryz.prog (Ad pu fw):=R1 fu od
theorem pE (x:AP [(false,(.sl true T5)),zI,zI]):OE Tryz.prog (Ad pu fw) (Qq []) 3000 60 231 [(false,(.sl true T5)),zI,zI] [(false,.bool)] x=V1 x:=by kernel_rfl
def fy:List (FuncId×Sg):=(231,⟨[(false,(.sl true T5)),zI,zI],[(false,.bool)],V1⟩)::fw
theorem f6:TabOK Tryz.prog (Ad pu fy):=R1 fx pE
theorem o0 (r:AP [(false,(.sl true T5)),zI]->Option (AP [zI,zI])) (x:AP [(false,(.sl true T5)),zI]):OE Tryz.prog (Ad pu ((221,⟨[(false,(.sl true T5)),zI],[zI,zI],r⟩)::fy)) (Qq []) 3000 60 221 [(false,(.sl true T5)),zI] [zI,zI] x=TV r x:=by kernel_rfl
def f8:List (FuncId×Sg):=(221,⟨[(false,(.sl true T5)),zI],[zI,zI],Mx (α:=AP [(false,(.sl true T5)),zI]) (β:=AP [zI,zI]) TV 100⟩)::fy
theorem f9:TabOK Tryz.prog (Ad pu f8):=SI f6 o0 (by rfl) (by rfl) 100
def mZ:List (Nat×Nat×Nat×An):=[(203,3,11,.loop { keep:=[0,3,5,9,2,8,6],kb:=[0],pl:=[.slot 4 false zJ,.box 8 [.ow true T5 false,.ow false zJ true,.lf zJ]],ex:=[(.exit 0,[])],pay:=.unit })]
theorem oe (x:AP [(false,(.sl true T5))]):OE Tryz.prog (Ad pu f8) (Qq mZ) 3000 60 203 [(false,(.sl true T5))] [(true,T7)] x=WZ x:=by kernel_rfl
def gA:List (FuncId×Sg):=(203,⟨[(false,(.sl true T5))],[(true,T7)],WZ⟩)::f8
theorem gB:TabOK Tryz.prog (Ad pu gA):=R1 f9 oe
theorem oR (x:AP [(false,(.sl true T5))]):OE Tryz.prog (Ad pu gA) (Qq []) 3000 60 186 [(false,(.sl true T5))] [(true,T7),zI] x=Vf x:=by kernel_rfl
def gC:List (FuncId×Sg):=(186,⟨[(false,(.sl true T5))],[(true,T7),zI],Vf⟩)::gA
theorem gD:TabOK Tryz.prog (Ad pu gC):=R1 gB oR
def mI:List (Nat×Nat×Nat×An):=[(156,4,12,.loop { keep:=[0,1,15,11,5,9,13,4,12,10,14],kb:=[0,3,8,6],pl:=[.slot 7 false zJ,.srow 6 true T5 false],ex:=[(.exit 0,[])],pay:=.unit })]
theorem nz (x:AP [(false,(.sl false (.sl true T2))),(false,(.sl false zJ))]):OE Tryz.prog (Ad pu gC) (Qq mI) 3000 60 156 [(false,(.sl false (.sl true T2))),(false,(.sl false zJ))] [(true,T9)] x=Ux x:=by kernel_rfl
def gE:List (FuncId×Sg):=(156,⟨[(false,(.sl false (.sl true T2))),(false,(.sl false zJ))],[(true,T9)],Ux⟩)::gC
theorem gF:TabOK Tryz.prog (Ad pu gE):=R1 gD nz
theorem nv (x:AP [(false,(.sl false (.sl true T2)))]):OE Tryz.prog (Ad pu gE) (Qq []) 3000 60 152 [(false,(.sl false (.sl true T2)))] [(true,T9),zI,zI] x=Wr x:=by kernel_rfl
def gG:List (FuncId×Sg):=(152,⟨[(false,(.sl false (.sl true T2)))],[(true,T9),zI,zI],Wr⟩)::gE
theorem gH:TabOK Tryz.prog (Ad pu gG):=R1 gF nv
theorem ny (x:AP [(false,.bool)]):OE Tryz.prog (Ad pu gG) (Qq []) 3000 60 153 [(false,.bool)] [(true,dR)] x=Uy x:=by kernel_rfl
def gI:List (FuncId×Sg):=(153,⟨[(false,.bool)],[(true,dR)],Uy⟩)::gG
theorem gJ:TabOK Tryz.prog (Ad pu gI):=R1 gH ny
theorem nS (x:AP [(false,(.sl false (.sl true T2))),(false,.bool)]):OE Tryz.prog (Ad pu gI) (Qq []) 3000 60 111 [(false,(.sl false (.sl true T2))),(false,.bool)] [(true,Z1),zI,zI] x=WE x:=by kernel_rfl
def gK:List (FuncId×Sg):=(111,⟨[(false,(.sl false (.sl true T2))),(false,.bool)],[(true,Z1),zI,zI],WE⟩)::gI
theorem gL:TabOK Tryz.prog (Ad pu gK):=R1 gJ nS
theorem qY (x:AP [(true,T4),zI,(false,.bool)]):OE Tryz.prog (Ad pu gK) (Qq []) 3000 60 68 [(true,T4),zI,(false,.bool)] [(true,Yh)] x=TT x:=by kernel_rfl
def gN:List (FuncId×Sg):=(68,⟨[(true,T4),zI,(false,.bool)],[(true,Yh)],TT⟩)::gK
theorem gO:TabOK Tryz.prog (Ad pu gN):=R1 gL qY
def nM:List (Nat×Nat×Nat×An):=[(96,7,25,.loop { keep:=[0,1,3,7,15,23,11,5,17,25,13,21,2,4,8,16,24,12,20,6,10,26,14,22],kb:=[0,1],pl:=[.slot 9 false zJ,.box 19 [.lf zJ,.lf (.sl true (.sl true T3)),.ow true Yh false,.lf zJ]],ex:=[(.exit 0,[])],pay:=.unit })]
theorem qi (x:AP [(true,T4)]):OE Tryz.prog (Ad pu gN) (Qq nM) 3000 60 96 [(true,T4)] [(true,WR),zI] x=YY x:=by kernel_rfl
def gP:List (FuncId×Sg):=(96,⟨[(true,T4)],[(true,WR),zI],YY⟩)::gN
theorem gQ:TabOK Tryz.prog (Ad pu gP):=R1 gO qi
end Go.Proofs.YtfilfloanndddaaGreat.Pt
