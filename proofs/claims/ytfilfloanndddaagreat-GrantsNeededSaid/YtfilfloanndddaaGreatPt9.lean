/- The evaluator comes to each of the plain functions. No condition. -/
import Derived.Test.YtfilfloanndddaaGreatPt8
set_option linter.all false
namespace Go.Proofs.YtfilfloanndddaaGreat.Pt
open Go Go.Proofs.YtfilfloanndddaaGreat.Sv Go.Proofs.YtfilfloanndddaaGreat.Pl
set_option maxRecDepth 1000000
set_option linter.unusedVariables false
def o0:List (Nat×Nat×Nat×An):=[(28,10,42,.loop { keep:=[0,1,7,31,23,39,19,35,27,43,5,17,33,49,25,41,21,37,29,45,4,16,32,48,24,40,20,36,28,44,6,18,34,50,26,42,22,38,30,46],kb:=[0],pl:=[.slot 3 false zJ,.slot 2 false zJ,.slot 8 false zJ],ex:=[(.ret,[]),(.exit 0,[])],pay:=.unit })]
theorem sj (x:AP [(true,Vt)]):OE Tryz.prog (Ad pu dX) (Qq o0) 3000 60 28 [(true,Vt)] [zI,zI] x=VT x:=by kernel_rfl
def dY:List (FuncId×Sg):=(28,⟨[(true,Vt)],[zI,zI],VT⟩)::dX
theorem fh:TabOK Tryz.prog (Ad pu dY):=R1 ff sj
theorem pI (x:AP [(true,Vt)]):OE Tryz.prog (Ad pu dY) (Qq []) 3000 60 102 [(true,Vt)] [(false,(.sl false zJ)),zI] x=VB x:=by kernel_rfl
def dZ:List (FuncId×Sg):=(102,⟨[(true,Vt)],[(false,(.sl false zJ)),zI],VB⟩)::dY
theorem fi:TabOK Tryz.prog (Ad pu dZ):=R1 fh pI
def o8:List (Nat×Nat×Nat×An):=[(55,5,13,.loop { keep:=[0,1,7,15,11,9,13,2,12,6,10,14],kb:=[0],pl:=[.slot 5 false zJ,.slot 4 false zJ,.slot 8 false zJ],ex:=[(.ret,[]),(.exit 0,[])],pay:=.unit })]
theorem sy (x:AP [(true,Vt),zI]):OE Tryz.prog (Ad pu dZ) (Qq o8) 3000 60 55 [(true,Vt),zI] [zI,zI] x=UJ x:=by kernel_rfl
def da:List (FuncId×Sg):=(55,⟨[(true,Vt),zI],[zI,zI],UJ⟩)::dZ
theorem fj:TabOK Tryz.prog (Ad pu da):=R1 fi sy
theorem tA (x:AP [(true,Vt),zI]):OE Tryz.prog (Ad pu da) (Qq []) 3000 60 57 [(true,Vt),zI] [zI,zI] x=UW x:=by kernel_rfl
def db:List (FuncId×Sg):=(57,⟨[(true,Vt),zI],[zI,zI],UW⟩)::da
theorem fm:TabOK Tryz.prog (Ad pu db):=R1 fj tA
theorem si (x:AP [(true,Vt),zI]):OE Tryz.prog (Ad pu db) (Qq []) 3000 60 24 [(true,Vt),zI] [zI,zI] x=We x:=by kernel_rfl
def hG:List (FuncId×Sg):=(24,⟨[(true,Vt),zI],[zI,zI],We⟩)::db
theorem fo:TabOK Tryz.prog (Ad pu hG):=R1 fm si
theorem e6 (x:AP [(true,Vt),(false,(.int .u8))]):OE Tryz.prog (Ad pu hG) (Qq []) 3000 60 6 [(true,Vt),(false,(.int .u8))] [(false,.bool)] x=Um x:=by kernel_rfl
theorem Xe {x:AP [(true,Vt),(false,(.int .u8))]} (h:Um x=some true) {b:List Pi.PV} (d:Dd [(true,Vt),(false,(.int .u8))] x b) {M:Pi.Ao} {w:World} (c : ∀ a v,M a=some v->a.spot=none/\w.cell? a=some v) {vs:List Value} (f:Pi.RepL M Pi.mu0 b vs) :
  Calls Tryz.prog 6 vs.toArray w λe w'=>e = .returned (.bool true)/\RowKit.Grown w w':=RW (Pi.Qn _ λ_=>rfl) fo ((e6 x).trans h) d (RQ (λ_=>rfl) _) c f
end Go.Proofs.YtfilfloanndddaaGreat.Pt
