/- The evaluator comes to each of the plain functions. No condition. -/
import Derived.Test.YtfilfloanndddaaGreatPt9
set_option linter.all false
namespace Go.Proofs.YtfilfloanndddaaGreat.Pt
open Go Go.Proofs.YtfilfloanndddaaGreat.Sv Go.Proofs.YtfilfloanndddaaGreat.Pl
set_option maxRecDepth 1000000
set_option linter.unusedVariables false
def oe:List (Nat×Nat×Nat×An):=[(107,3,98,.loop { keep:=[0,1,3,7,13,2,4,12,6,14],kb:=[0,1,92,90,70,54],pl:=[.slot 8 false zJ,.box 91 [.lf zJ,.lf (.sl true (.sl true T3)),.ow true Xw false,.lf zJ]],ex:=[(.exit 0,[])],pay:=.unit }),(107,3,73,.loop { keep:=[0,1,3,7,13,2,4,12,6,14],kb:=[0,1,67,65,54],pl:=[.slot 8 false zJ,.box 66 [.lf zJ,.lf (.sl true (.sl true T3)),.ow true Xw false,.lf zJ]],ex:=[(.exit 0,[])],pay:=.unit }),(107,7,116,.loop { keep:=[0,1,3,7,15,23,27,9,17,25,13,21,29,2,4,8,16,24,12,28,6,10,18,26,14,22,30],kb:=[0,1,91,92,90,70,54],pl:=[.slot 11 false zJ,.box 112 [.lf zJ,.lf (.sl false (.sl true T2)),.lf (.sl false zJ),.lf (.sl true T5),.lf (.sl false zJ),.lf zJ,.lf .bool,.lf .str,.lf .bool,.lf (.sl true T2),.lf zJ]],ex:=[(.exit 2,[])],pay:=.unit }),(107,7,91,.loop { keep:=[0,1,3,7,15,23,27,9,17,25,13,21,29,2,4,8,16,24,12,28,6,10,18,26,14,22,30],kb:=[0,1,67,65,66,54],pl:=[.slot 11 false zJ,.box 87 [.lf zJ,.lf (.sl false (.sl true T2)),.lf (.sl false zJ),.lf (.sl true T5),.lf (.sl false zJ),.lf zJ,.lf .bool,.lf .str,.lf .bool,.lf (.sl true T2),.lf zJ]],ex:=[(.exit 2,[])],pay:=.unit }),(107,7,117,.loop { keep:=[0,1,3,7,15,23,27,9,17,25,13,21,29,2,4,8,16,24,12,28,6,10,18,26,14,22,30],kb:=[0,1,91,92,98,90,70,54],pl:=[.slot 11 false zJ,.box 113 [.lf zJ,.lf (.sl false (.sl true T2)),.lf (.sl false zJ),.lf (.sl true T5),.lf (.sl false zJ),.lf zJ,.lf .bool,.lf .str,.lf .bool,.lf (.sl true T2),.lf zJ]],ex:=[(.exit 2,[])],pay:=.unit }),(107,7,92,.loop { keep:=[0,1,3,7,15,23,27,9,17,25,13,21,29,2,4,8,16,24,12,28,6,10,18,26,14,22,30],kb:=[0,1,67,65,73,66,54],pl:=[.slot 11 false zJ,.box 88 [.lf zJ,.lf (.sl false (.sl true T2)),.lf (.sl false zJ),.lf (.sl true T5),.lf (.sl false zJ),.lf zJ,.lf .bool,.lf .str,.lf .bool,.lf (.sl true T2),.lf zJ]],ex:=[(.exit 2,[])],pay:=.unit })]
theorem tB (x:AP [(true,Ub),zI]):OE Tryz.prog (Ad pu dD) (Qq oe) 3000 60 61 [(true,Ub),zI] [(true,Ub),zI] x=VA x:=by kernel_rfl
def dE:List (FuncId×Sg):=(61,⟨[(true,Ub),zI],[(true,Ub),zI],VA⟩)::dD
theorem fY:TabOK Tryz.prog (Ad pu dE):=R1 fX tB
theorem sZ (x:AP [(true,Ub),zI]):OE Tryz.prog (Ad pu dE) (Qq []) 3000 60 23 [(true,Ub),zI] [(true,Ub),(false,.bool),zI] x=Vf x:=by kernel_rfl
def dF:List (FuncId×Sg):=(23,⟨[(true,Ub),zI],[(true,Ub),(false,.bool),zI],Vf⟩)::dE
theorem fZ:TabOK Tryz.prog (Ad pu dF):=R1 fY sZ
theorem su (x:AP [(true,Ub)]):OE Tryz.prog (Ad pu dF) (Qq []) 3000 60 56 [(true,Ub)] [(true,Ub),zI,(false,.bool),zI] x=UU x:=by kernel_rfl
def dG:List (FuncId×Sg):=(56,⟨[(true,Ub)],[(true,Ub),zI,(false,.bool),zI],UU⟩)::dF
theorem fa:TabOK Tryz.prog (Ad pu dG):=R1 fZ su
def oY:List (Nat×Nat×Nat×An):=[(21,10,32,.loop { keep:=[0,1,7,15,31,23,19,35,27,17,33,25,13,21,37,29,2,16,32,24,20,36,28,6,18,34,26,14,22,30],kb:=[],pl:=[.slot 5 false zJ,.slot 4 false zJ,.slot 8 false zJ,.box 0 [.lf zJ,.lf (.sl true (.sl true T3)),.lf (.sl true Xw),.lf zJ]],ex:=[(.ret,[])],pay:=.unit }),(21,10,25,.loop { keep:=[0,1,7,15,23,19,27,17,25,13,21,37,29,2,16,24,20,36,28,6,18,26,14,22],kb:=[],pl:=[.slot 5 false zJ,.slot 4 false zJ,.slot 8 false zJ,.box 0 [.lf zJ,.lf (.sl true (.sl true T3)),.lf (.sl true Xw),.lf zJ]],ex:=[(.ret,[])],pay:=.unit })]
theorem sX (x:AP [(true,Ub),zI]):OE Tryz.prog (Ad pu dG) (Qq oY) 3000 60 21 [(true,Ub),zI] [zI,zI] x=Wr x:=by kernel_rfl
def gr:List (FuncId×Sg):=(21,⟨[(true,Ub),zI],[zI,zI],Wr⟩)::dG
theorem fb:TabOK Tryz.prog (Ad pu gr):=R1 fa sX
theorem e4 (x:AP [(true,Ub),zI]):OE Tryz.prog (Ad pu gr) (Qq []) 3000 60 4 [(true,Ub),zI] [(false,.bool)] x=Uu x:=by kernel_rfl
theorem Xa {x:AP [(true,Ub),zI]} (h:Uu x=some true) {b:List Pi.PV} (d:Dd [(true,Ub),zI] x b) {M:Pi.Ao} {w:World} (c : ∀ a v,M a=some v->a.spot=none/\w.cell? a=some v) {vs:List Value} (f:Pi.RepL M Pi.mu0 b vs) :
  Calls Tryz.prog 4 vs.toArray w λe w'=>e = .returned (.bool true)/\RowKit.Grown w w':=RW (Pi.Qn _ λ_=>rfl) fb ((e4 x).trans h) d (RQ (λ_=>rfl) _) c f
end Go.Proofs.YtfilfloanndddaaGreat.Pt
