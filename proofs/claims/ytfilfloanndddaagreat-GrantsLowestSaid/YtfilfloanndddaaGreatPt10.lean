/- The evaluator comes to each of the plain functions. No condition. -/
import Derived.Test.YtfilfloanndddaaGreatPt9
set_option linter.all false
namespace Go.Proofs.YtfilfloanndddaaGreat.Pt
open Go Go.Proofs.YtfilfloanndddaaGreat.Sv Go.Proofs.YtfilfloanndddaaGreat.Pl
set_option maxRecDepth 1000000
set_option linter.unusedVariables false
theorem t7 (x:AP [(true,Ur),zI]):OE Tryz.prog (Ad pu dv) (Qq []) 3000 60 23 [(true,Ur),zI] [(true,Ur),(false,.bool),zI] x=Uy x:=by kernel_rfl
def dw:List (FuncId×Sg):=(23,⟨[(true,Ur),zI],[(true,Ur),(false,.bool),zI],Uy⟩)::dv
theorem gV:TabOK Tryz.prog (Ad pu dw):=R1 gU t7
def px:List (Nat×Nat×Nat×An):=[(43,2,2,.loop { keep:=[0,1],kb:=[],pl:=[.slot 5 false zJ,.slot 4 false .bool],ex:=[(.ret,[]),(.exit 0,[])],pay:=.unit })]
theorem uD (x:AP [(false,(.sl true T2)),(false,(.sl true T2))]):OE Tryz.prog (Ad pu dw) (Qq px) 3000 60 43 [(false,(.sl true T2)),(false,(.sl true T2))] [(false,.bool)] x=Ve x:=by kernel_rfl
def dx:List (FuncId×Sg):=(43,⟨[(false,(.sl true T2)),(false,(.sl true T2))],[(false,.bool)],Ve⟩)::dw
theorem gW:TabOK Tryz.prog (Ad pu dx):=R1 gV uD
theorem qv (x:AP [(true,T3),(true,T3)]):OE Tryz.prog (Ad pu dx) (Qq []) 3000 60 147 [(true,T3),(true,T3)] [(false,.bool)] x=Vv x:=by kernel_rfl
def dy:List (FuncId×Sg):=(147,⟨[(true,T3),(true,T3)],[(false,.bool)],Vv⟩)::dx
theorem gX:TabOK Tryz.prog (Ad pu dy):=R1 gW qv
def qJ:List (Nat×Nat×Nat×An):=[(98,4,7,.loop { keep:=[0,1,7,9,8,6,10],kb:=[],pl:=[.slot 5 false zJ,.slot 4 false .bool],ex:=[(.ret,[]),(.exit 0,[])],pay:=.unit })]
theorem ui (x:AP [(false,(.sl true T3)),(false,(.sl true T3))]):OE Tryz.prog (Ad pu dy) (Qq qJ) 3000 60 98 [(false,(.sl true T3)),(false,(.sl true T3))] [(false,.bool)] x=Vf x:=by kernel_rfl
def dz:List (FuncId×Sg):=(98,⟨[(false,(.sl true T3)),(false,(.sl true T3))],[(false,.bool)],Vf⟩)::dy
theorem gY:TabOK Tryz.prog (Ad pu dz):=R1 gX ui
def py:List (Nat×Nat×Nat×An):=[(50,4,18,.loop { keep:=[0,1,3,7,15,11,19,9,17,13,2,8,16,12,6,10,18,14],kb:=[0,1],pl:=[.slot 5 false zJ,.slot 4 false .bool],ex:=[(.ret,[]),(.exit 0,[])],pay:=.unit })]
theorem uG (x:AP [(true,T4),(true,T4)]):OE Tryz.prog (Ad pu dz) (Qq py) 3000 60 50 [(true,T4),(true,T4)] [(false,.bool)] x=Wx x:=by kernel_rfl
def d6:List (FuncId×Sg):=(50,⟨[(true,T4),(true,T4)],[(false,.bool)],Wx⟩)::dz
theorem gZ:TabOK Tryz.prog (Ad pu d6):=R1 gY uG
theorem uH (x:AP [(true,Xj),(true,Xj)]):OE Tryz.prog (Ad pu d6) (Qq []) 3000 60 51 [(true,Xj),(true,Xj)] [(false,.bool)] x=Vw x:=by kernel_rfl
def d7:List (FuncId×Sg):=(51,⟨[(true,Xj),(true,Xj)],[(false,.bool)],Vw⟩)::d6
theorem ga:TabOK Tryz.prog (Ad pu d7):=R1 gZ uH
def pk:List (Nat×Nat×Nat×An):=[(16,4,26,.loop { keep:=[0,1,3,7,15,23,11,19,27,9,17,25,13,21,2,8,16,24,12,20,6,10,18,26,14,22],kb:=[0,1],pl:=[.slot 5 false zJ,.slot 4 false .bool],ex:=[(.ret,[]),(.exit 0,[])],pay:=.unit })]
theorem tz (x:AP [(true,Ur),(true,Ur)]):OE Tryz.prog (Ad pu d7) (Qq pk) 3000 60 16 [(true,Ur),(true,Ur)] [(false,.bool)] x=VJ x:=by kernel_rfl
def io:List (FuncId×Sg):=(16,⟨[(true,Ur),(true,Ur)],[(false,.bool)],VJ⟩)::d7
theorem gb:TabOK Tryz.prog (Ad pu io):=R1 ga tz
def tq:List (Nat×Nat×Nat×An):=[(5,13,69,.loop { keep:=[0,1,7,31,63,79,23,39,71,87,11,35,67,83,27,75,59,91,5,9,33,65,81,25,73,57,89,21,37,69,85,29,77,61,2,8,32,64,80,24,40,72,88,20,36,68,84,28,76,60,92,6,10,34,66,82,26,74,58,90,38,70,86,30,78,62],kb:=[15,16],pl:=[.slot 13 false zJ,.slot 4 false .bool,.slot 12 false zJ,.box 66 [.lf zJ,.lf zJ,.lf zJ,.lf zJ,.lf zJ,.lf zJ,.lf zJ,.lf zJ,.lf zJ,.lf zJ,.lf zJ,.lf zJ],.box 0 [.lf zJ,.lf (.sl true (.sl true T3)),.lf (.sl true Xj),.lf zJ]],ex:=[(.exit 0,[]),(.ret,[])],pay:=.unit }),(5,16,74,.loop { keep:=[0,1,7,31,63,95,79,23,39,71,87,11,35,67,83,27,75,59,91,5,9,33,65,81,25,73,57,89,13,21,37,69,85,29,77,61,93,2,8,32,64,96,80,24,40,72,88,12,20,36,68,84,28,76,60,92,6,10,34,66,82,26,74,58,90,38,70,86,30,78,62,94],kb:=[0,15,16,66],pl:=[.slot 4 false .bool,.slot 14 false zJ],ex:=[(.ret,[]),(.exit 2,[])],pay:=.unit })]
theorem e5 (x:AP [(true,Ur),(false,(.int .u8))]):OE Tryz.prog (Ad pu io) (Qq tq) 3000 60 5 [(true,Ur),(false,(.int .u8))] [(false,.bool)] x=Um x:=by kernel_rfl
theorem Xk {x:AP [(true,Ur),(false,(.int .u8))]} (h:Um x=some true) {b:List Pi.PV} (d:Dd [(true,Ur),(false,(.int .u8))] x b) {M:Pi.Ao} {w:World} (c : ∀ a v,M a=some v->a.spot=none/\w.cell? a=some v) {vs:List Value} (f:Pi.RepL M Pi.mu0 b vs) :
  Calls Tryz.prog 5 vs.toArray w λe w'=>e = .returned (.bool true)/\RowKit.Grown w w':=RW (Pi.Qn _ λ_=>rfl) gb ((e5 x).trans h) d (RQ (λ_=>rfl) _) c f
end Go.Proofs.YtfilfloanndddaaGreat.Pt
