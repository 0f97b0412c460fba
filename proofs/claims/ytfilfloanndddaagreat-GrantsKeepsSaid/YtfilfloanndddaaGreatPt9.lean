/- The evaluator comes to each of the plain functions. No condition. -/
import Derived.Test.YtfilfloanndddaaGreatPt8
set_option linter.all false
namespace Go.Proofs.YtfilfloanndddaaGreat.Pt
open Go Go.Proofs.YtfilfloanndddaaGreat.Sv Go.Proofs.YtfilfloanndddaaGreat.Pl
set_option maxRecDepth 1000000
set_option linter.unusedVariables false
theorem pL (x:AP [(true,T9)]):OE Tryz.prog (Ad pu dL) (Qq []) 3000 60 115 [(true,T9)] [(true,T2),zI,(true,T9),zI] x=Vd x:=by kernel_rfl
def dM:List (FuncId×Sg):=(115,⟨[(true,T9)],[(true,T2),zI,(true,T9),zI],Vd⟩)::dL
theorem fU:TabOK Tryz.prog (Ad pu dM):=R1 fT pL
def o9:List (Nat×Nat×Nat×An):=[(70,11,32,.loop { keep:=[0,1,7,15,31,23,39,19,35,27,5,9,17,33,25,21,37,2,4,8,16,32,24,20,36,6,10,18,34,26,22,30],kb:=[0,1],pl:=[.slot 11 false zJ,.box 29 [.lf (.sl false (.sl true T2)),.lf (.sl false zJ),.lf (.sl true T5),.lf (.sl false zJ),.lf zJ,.lf .bool,.lf .str,.lf .bool,.lf (.sl true T2),.lf zJ]],ex:=[(.exit 0,[])],pay:=.unit })]
theorem tF (x:AP [(true,Xc),zI]):OE Tryz.prog (Ad pu dM) (Qq o9) 3000 60 70 [(true,Xc),zI] [(true,Xc),zI,zI] x=Ta x:=by kernel_rfl
def dN:List (FuncId×Sg):=(70,⟨[(true,Xc),zI],[(true,Xc),zI,zI],Ta⟩)::dM
theorem fV:TabOK Tryz.prog (Ad pu dN):=R1 fU tF
def nK:List (Nat×Nat×Nat×An):=[(118,4,27,.loop { keep:=[0,1,3,7,15,23,11,19,27,9,17,25,13,21,2,8,16,24,12,20,28,6,10,18,26,14,22],kb:=[0,1],pl:=[.slot 5 false zJ,.slot 4 false .bool],ex:=[(.ret,[]),(.exit 0,[])],pay:=.unit })]
theorem pO (x:AP [(true,T9),(true,T9)]):OE Tryz.prog (Ad pu dN) (Qq nK) 3000 60 118 [(true,T9),(true,T9)] [(false,.bool)] x=Wq x:=by kernel_rfl
def dO:List (FuncId×Sg):=(118,⟨[(true,T9),(true,T9)],[(false,.bool)],Wq⟩)::dN
theorem fW:TabOK Tryz.prog (Ad pu dO):=R1 fV pO
theorem tG (x:AP [(true,Xc),(true,Xc)]):OE Tryz.prog (Ad pu dO) (Qq []) 3000 60 71 [(true,Xc),(true,Xc)] [(false,.bool)] x=Tz x:=by kernel_rfl
def dQ:List (FuncId×Sg):=(71,⟨[(true,Xc),(true,Xc)],[(false,.bool)],Tz⟩)::dO
theorem fX:TabOK Tryz.prog (Ad pu dQ):=R1 fW tG
def ot:List (Nat×Nat×Nat×An):=[(28,10,42,.loop { keep:=[0,1,7,31,23,39,19,35,27,43,5,17,33,49,25,41,21,37,29,45,4,16,32,48,24,40,20,36,28,44,6,18,34,50,26,42,22,38,30,46],kb:=[0],pl:=[.slot 3 false zJ,.slot 2 false zJ,.slot 8 false zJ],ex:=[(.ret,[]),(.exit 0,[])],pay:=.unit })]
theorem se (x:AP [(true,WG)]):OE Tryz.prog (Ad pu dQ) (Qq ot) 3000 60 28 [(true,WG)] [zI,zI] x=U1 x:=by kernel_rfl
def gm:List (FuncId×Sg):=(28,⟨[(true,WG)],[zI,zI],U1⟩)::dQ
theorem fY:TabOK Tryz.prog (Ad pu gm):=R1 fX se
def sS:List (Nat×Nat×Nat×An):=[(8,5,11,.loop { keep:=[0,1,15,11,17,13,2,4,16,12,14],kb:=[0],pl:=[.srow 5 false zJ false,.slot 6 false zJ],ex:=[(.exit 0,[])],pay:=.unit }),(8,14,41,.loop { keep:=[0,1,7,15,63,39,55,11,35,51,59,9,17,49,41,57,13,37,53,61,2,8,16,40,56,12,36,52,60,6,34,50,42,58,14,38,54,62],kb:=[0,11,19],pl:=[.slot 4 false .bool,.slot 10 false zJ,.slot 5 false (.sl false zJ)],ex:=[(.ret,[]),(.exit 2,[])],pay:=.unit,relS:=[5] })]
theorem e8 (x:AP [(true,WG),(false,(.sl false (.int .u8)))]):OE Tryz.prog (Ad pu gm) (Qq sS) 3000 60 8 [(true,WG),(false,(.sl false (.int .u8)))] [(false,.bool)] x=Uu x:=by kernel_rfl
theorem Xd {x:AP [(true,WG),(false,(.sl false (.int .u8)))]} (h:Uu x=some true) {b:List Pi.PV} (d:Dd [(true,WG),(false,(.sl false (.int .u8)))] x b) {M:Pi.Ao} {w:World} (c : ∀ a v,M a=some v->a.spot=none/\w.cell? a=some v) {vs:List Value} (f:Pi.RepL M Pi.mu0 b vs) :
  Calls Tryz.prog 8 vs.toArray w λe w'=>e = .returned (.bool true)/\RowKit.Grown w w':=RW (Pi.Qn _ λ_=>rfl) fY ((e8 x).trans h) d (RQ (λ_=>rfl) _) c f
end Go.Proofs.YtfilfloanndddaaGreat.Pt
