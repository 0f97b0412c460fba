/- The evaluator comes to each of the plain functions. No condition. -/
import Derived.Test.YtfilfloanndddaaGreatPt4
set_option linter.all false
namespace Go.Proofs.YtfilfloanndddaaGreat.Pt
open Go Go.Proofs.YtfilfloanndddaaGreat.Sv Go.Proofs.YtfilfloanndddaaGreat.Pl
set_option maxRecDepth 1000000
set_option linter.unusedVariables false
def nl:List (Nat×Nat×Nat×An):=[(213,5,24,.loop { keep:=[0,1,15,19,17,2,8,16,20,18,14],kb:=[],pl:=[.slot 7 false zJ,.slot 21 false zJ,.slot 6 false zJ,.box 19 [.lf .bool,.lf .str,.lf .bool],.box 0 [.ow true T2 false]],ex:=[(.ret,[]),(.exit 0,[])],pay:=.unit })]
theorem qX (x:AP [(false,(.sl true T2)),(false,.bool)]):OE Tryz.prog (Ad pu j8) (Qq nl) 3000 60 193 [(false,(.sl true T2)),(false,.bool)] [(false,(.sl true T2)),zI,zI] x=Vk x:=by kernel_rfl
def kA:List (FuncId×Sg):=(193,⟨[(false,(.sl true T2)),(false,.bool)],[(false,(.sl true T2)),zI,zI],Vk⟩)::j8
theorem kB:TabOK Tryz.prog (Ad pu kA):=R1 j9 qX
def np:List (Nat×Nat×Nat×An):=[(195,4,9,.loop { keep:=[0,1,7,11,9,13,8,12,10],kb:=[],pl:=[.slot 4 false .bool,.slot 14 false zJ],ex:=[(.ret,[]),(.exit 0,[])],pay:=.unit })]
theorem qZ (x:AP [(false,(.sl true T2)),(false,(.sl true T2))]):OE Tryz.prog (Ad pu kA) (Qq np) 3000 60 195 [(false,(.sl true T2)),(false,(.sl true T2))] [(false,.bool)] x=VW x:=by kernel_rfl
def kC:List (FuncId×Sg):=(195,⟨[(false,(.sl true T2)),(false,(.sl true T2))],[(false,.bool)],VW⟩)::kA
theorem kD:TabOK Tryz.prog (Ad pu kC):=R1 kB qZ
def nV:List (Nat×Nat×Nat×An):=[(169,6,18,.loop { keep:=[0,1,3,15,23,19,17,25,21,2,4,16,24,20,18,26,14],kb:=[0],pl:=[.slot 27 false zJ,.slot 5 false zJ],ex:=[(.exit 0,[])],pay:=.unit })]
theorem qG (x:AP [(true,XZ)]):OE Tryz.prog (Ad pu kC) (Qq nV) 3000 60 169 [(true,XZ)] [zI] x=V5 x:=by kernel_rfl
def kF:List (FuncId×Sg):=(169,⟨[(true,XZ)],[zI],V5⟩)::kC
theorem kG:TabOK Tryz.prog (Ad pu kF):=R1 kD qG
def nX:List (Nat×Nat×Nat×An):=[(170,6,17,.loop { keep:=[0,1,3,15,11,19,5,9,17,13,2,4,12,10,18,14],kb:=[0],pl:=[.slot 20 false zJ,.slot 6 false zJ],ex:=[(.exit 0,[])],pay:=.unit })]
theorem qH (x:AP [(true,T9)]):OE Tryz.prog (Ad pu kF) (Qq nX) 3000 60 170 [(true,T9)] [zI,zI] x=Wh x:=by kernel_rfl
def kH:List (FuncId×Sg):=(170,⟨[(true,T9)],[zI,zI],Wh⟩)::kF
theorem kI:TabOK Tryz.prog (Ad pu kH):=R1 kG qH
theorem pP (x:AP [(true,XZ)]):OE Tryz.prog (Ad pu kH) (Qq []) 3000 60 134 [(true,XZ)] [zI,zI] x=UA x:=by kernel_rfl
def kJ:List (FuncId×Sg):=(134,⟨[(true,XZ)],[zI,zI],UA⟩)::kH
theorem kK:TabOK Tryz.prog (Ad pu kJ):=R1 kI pP
theorem qc (x:AP [(true,T9)]):OE Tryz.prog (Ad pu kJ) (Qq []) 3000 60 196 [(true,T9)] [(true,T2),zI,(true,T9),zI] x=UO x:=by kernel_rfl
def kL:List (FuncId×Sg):=(196,⟨[(true,T9)],[(true,T2),zI,(true,T9),zI],UO⟩)::kJ
theorem kM:TabOK Tryz.prog (Ad pu kL):=R1 kK qc
theorem qd (x:AP [(true,ZQ),(true,T2)]):OE Tryz.prog (Ad pu kL) (Qq []) 3000 60 197 [(true,ZQ),(true,T2)] [(false,.bool),(true,ZQ),zI] x=UR x:=by kernel_rfl
def kO:List (FuncId×Sg):=(197,⟨[(true,ZQ),(true,T2)],[(false,.bool),(true,ZQ),zI],UR⟩)::kL
theorem kP:TabOK Tryz.prog (Ad pu kO):=R1 kM qd
def nH:List (Nat×Nat×Nat×An):=[(172,2,81,.loop { keep:=[0,1,6],kb:=[0,1,39,67,68],pl:=[.slot 7 false zJ,.slot 4 false zJ,.box 28 [.lf (.sl false (.sl true T2)),.lf (.sl false zJ),.lf (.sl true T5),.lf (.sl false zJ),.lf zJ,.lf .bool,.lf .str,.lf .bool,.ow true T2 false,.lf zJ]],ex:=[(.ret,[]),(.exit 0,[])],pay:=.unit }),(172,2,98,.loop { keep:=[0,1,6],kb:=[0,1,39,67,68,86],pl:=[.slot 7 false zJ,.slot 4 false zJ,.box 28 [.lf (.sl false (.sl true T2)),.lf (.sl false zJ),.lf (.sl true T5),.lf (.sl false zJ),.lf zJ,.lf .bool,.lf .str,.lf .bool,.ow true T2 false,.lf zJ]],ex:=[(.ret,[]),(.exit 0,[])],pay:=.unit }),(172,2,133,.loop { keep:=[0,1,6],kb:=[0,1,39,67,68,86],pl:=[.slot 7 false zJ,.slot 4 false zJ,.box 28 [.lf (.sl false (.sl true T2)),.lf (.sl false zJ),.lf (.sl true T5),.lf (.sl false zJ),.lf zJ,.lf .bool,.lf .str,.lf .bool,.ow true T2 false,.lf zJ]],ex:=[(.ret,[]),(.exit 0,[])],pay:=.unit }),(172,2,120,.loop { keep:=[0,1,6],kb:=[0,1,39,67,68,86],pl:=[.slot 7 false zJ,.slot 4 false zJ,.box 28 [.lf (.sl false (.sl true T2)),.lf (.sl false zJ),.lf (.sl true T5),.lf (.sl false zJ),.lf zJ,.lf .bool,.lf .str,.lf .bool,.ow true T2 false,.lf zJ]],ex:=[(.ret,[]),(.exit 0,[])],pay:=.unit })]
theorem pT (x:AP [(true,XZ),zI]):OE Tryz.prog (Ad pu kO) (Qq nH) 3000 60 137 [(true,XZ),zI] [(true,XZ),zI,zI] x=UN x:=by kernel_rfl
def kQ:List (FuncId×Sg):=(137,⟨[(true,XZ),zI],[(true,XZ),zI,zI],UN⟩)::kO
theorem kS:TabOK Tryz.prog (Ad pu kQ):=R1 kP pT
def nq:List (Nat×Nat×Nat×An):=[(200,4,9,.loop { keep:=[0,1,7,11,9,8,12,6,10],kb:=[],pl:=[.slot 13 false zJ,.slot 4 false .bool],ex:=[(.ret,[]),(.exit 0,[])],pay:=.unit })]
theorem qf (x:AP [(false,(.sl true T2)),(false,(.sl true T2))]):OE Tryz.prog (Ad pu kQ) (Qq nq) 3000 60 200 [(false,(.sl true T2)),(false,(.sl true T2))] [(false,.bool)] x=Tu x:=by kernel_rfl
def kT:List (FuncId×Sg):=(200,⟨[(false,(.sl true T2)),(false,(.sl true T2))],[(false,.bool)],Tu⟩)::kQ
theorem kU:TabOK Tryz.prog (Ad pu kT):=R1 kS qf
theorem qO (x:AP [(false,(.sl true T2)),(false,(.sl true T2))]):OE Tryz.prog (Ad pu kT) (Qq []) 3000 60 182 [(false,(.sl true T2)),(false,(.sl true T2))] [(false,.bool)] x=UF x:=by kernel_rfl
def kV:List (FuncId×Sg):=(182,⟨[(false,(.sl true T2)),(false,(.sl true T2))],[(false,.bool)],UF⟩)::kT
theorem kW:TabOK Tryz.prog (Ad pu kV):=R1 kU qO
def nM:List (Nat×Nat×Nat×An):=[(181,4,81,.loop { keep:=[0,1,15,11,13,2,16,12,10,14],kb:=[0,1,7,8],pl:=[.slot 17 false zJ,.slot 6 false .bool],ex:=[(.ret,[]),(.exit 0,[])],pay:=.unit })]
theorem pk (x:AP [(true,XZ),(true,XZ)]):OE Tryz.prog (Ad pu kV) (Qq nM) 3000 60 146 [(true,XZ),(true,XZ)] [(false,.bool)] x=VD x:=by kernel_rfl
def kX:List (FuncId×Sg):=(146,⟨[(true,XZ),(true,XZ)],[(false,.bool)],VD⟩)::kV
theorem kY:TabOK Tryz.prog (Ad pu kX):=R1 kW pk
def o0:List (Nat×Nat×Nat×An):=[(168,1,52,.loop { keep:=[0,1,7,5,6],kb:=[0,47,35,46],pl:=[.slot 8 false zJ,.box 43 [.ow false zJ false]],ex:=[(.exit 0,[(47,0,none)])],pay:=.unit }),(97,10,59,.loop { keep:=[0,1,15,31,47,23,39,19,35,27,43,17,33,25,41,21,37,29,45,4,16,32,40,20,36,28,44,18,34,26,42,14,22,38,30,46],kb:=[0,47,35,43,52],pl:=[.slot 3 false zJ,.slot 2 false zJ,.slot 48 false zJ],ex:=[(.ret,[(47,3,none)]),(.exit 1,[(47,3,none)])],pay:=.unit })]
theorem tW (x:AP [(true,Ub)]):OE Tryz.prog (Ad pu kX) (Qq o0) 3000 60 97 [(true,Ub)] [zI,zI] x=UT x:=by kernel_rfl
def kZ:List (FuncId×Sg):=(97,⟨[(true,Ub)],[zI,zI],UT⟩)::kX
theorem ka:TabOK Tryz.prog (Ad pu kZ):=R1 kY tW
def ou:List (Nat×Nat×Nat×An):=[(168,1,35,.loop { keep:=[0,1,7,5,6],kb:=[0,29,18,30],pl:=[.slot 8 false zJ,.box 26 [.ow false zJ false]],ex:=[(.exit 0,[(30,0,none)])],pay:=.unit })]
theorem tN (x:AP [(true,Ub)]):OE Tryz.prog (Ad pu kZ) (Qq ou) 3000 60 90 [(true,Ub)] [(false,(.sl false zJ)),zI] x=Vx x:=by kernel_rfl
def kc:List (FuncId×Sg):=(90,⟨[(true,Ub)],[(false,(.sl false zJ)),zI],Vx⟩)::kZ
theorem ke:TabOK Tryz.prog (Ad pu kc):=R1 ka tN
def oc:List (Nat×Nat×Nat×An):=[(148,2,31,.loop { keep:=[0,1,7,6],kb:=[0,1],pl:=[.slot 4 false zJ,.slot 8 false zJ],ex:=[(.ret,[]),(.exit 0,[])],pay:=.unit })]
theorem sq (x:AP [(true,Ub),zI]):OE Tryz.prog (Ad pu kc) (Qq oc) 3000 60 53 [(true,Ub),zI] [zI,zI] x=VC x:=by kernel_rfl
def kg:List (FuncId×Sg):=(53,⟨[(true,Ub),zI],[zI,zI],VC⟩)::kc
theorem kh:TabOK Tryz.prog (Ad pu kg):=R1 ke sq
end Go.Proofs.YtfilfloanndddaaGreat.Pt
