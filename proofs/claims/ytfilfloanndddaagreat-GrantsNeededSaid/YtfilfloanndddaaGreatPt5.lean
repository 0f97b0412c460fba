/- The evaluator comes to each of the plain functions. No condition. -/
import Derived.Test.YtfilfloanndddaaGreatPt4
set_option linter.all false
namespace Go.Proofs.YtfilfloanndddaaGreat.Pt
open Go Go.Proofs.YtfilfloanndddaaGreat.Sv Go.Proofs.YtfilfloanndddaaGreat.Pl
set_option maxRecDepth 1000000
set_option linter.unusedVariables false
def oI:List (Nat×Nat×Nat×An):=[(213,5,24,.loop { keep:=[0,1,15,19,17,2,8,16,20,18,14],kb:=[],pl:=[.slot 7 false zJ,.slot 21 false zJ,.slot 6 false zJ,.box 19 [.lf .bool,.lf .str,.lf .bool],.box 0 [.ow true T2 false]],ex:=[(.ret,[]),(.exit 0,[])],pay:=.unit })]
theorem qh (x:AP [(false,(.sl true T2)),(false,.bool)]):OE Tryz.prog (Ad pu kK) (Qq oI) 3000 60 193 [(false,(.sl true T2)),(false,.bool)] [(false,(.sl true T2)),zI,zI] x=Vl x:=by kernel_rfl
def kM:List (FuncId×Sg):=(193,⟨[(false,(.sl true T2)),(false,.bool)],[(false,(.sl true T2)),zI,zI],Vl⟩)::kK
theorem kO:TabOK Tryz.prog (Ad pu kM):=R1 kL qh
def oJ:List (Nat×Nat×Nat×An):=[(195,4,9,.loop { keep:=[0,1,7,11,9,13,8,12,10],kb:=[],pl:=[.slot 4 false .bool,.slot 14 false zJ],ex:=[(.ret,[]),(.exit 0,[])],pay:=.unit })]
theorem qj (x:AP [(false,(.sl true T2)),(false,(.sl true T2))]):OE Tryz.prog (Ad pu kM) (Qq oJ) 3000 60 195 [(false,(.sl true T2)),(false,(.sl true T2))] [(false,.bool)] x=Va x:=by kernel_rfl
def kP:List (FuncId×Sg):=(195,⟨[(false,(.sl true T2)),(false,(.sl true T2))],[(false,.bool)],Va⟩)::kM
theorem kQ:TabOK Tryz.prog (Ad pu kP):=R1 kO qj
def ny:List (Nat×Nat×Nat×An):=[(169,6,18,.loop { keep:=[0,1,3,15,23,19,17,25,21,2,4,16,24,20,18,26,14],kb:=[0],pl:=[.slot 27 false zJ,.slot 5 false zJ],ex:=[(.exit 0,[])],pay:=.unit })]
theorem qN (x:AP [(true,Xg)]):OE Tryz.prog (Ad pu kP) (Qq ny) 3000 60 169 [(true,Xg)] [zI] x=V8 x:=by kernel_rfl
def kS:List (FuncId×Sg):=(169,⟨[(true,Xg)],[zI],V8⟩)::kP
theorem kT:TabOK Tryz.prog (Ad pu kS):=R1 kQ qN
def nz:List (Nat×Nat×Nat×An):=[(170,6,17,.loop { keep:=[0,1,3,15,11,19,5,9,17,13,2,4,12,10,18,14],kb:=[0],pl:=[.slot 20 false zJ,.slot 6 false zJ],ex:=[(.exit 0,[])],pay:=.unit })]
theorem qO (x:AP [(true,T9)]):OE Tryz.prog (Ad pu kS) (Qq nz) 3000 60 170 [(true,T9)] [zI,zI] x=Wj x:=by kernel_rfl
def kU:List (FuncId×Sg):=(170,⟨[(true,T9)],[zI,zI],Wj⟩)::kS
theorem kV:TabOK Tryz.prog (Ad pu kU):=R1 kT qO
theorem pY (x:AP [(true,Xg)]):OE Tryz.prog (Ad pu kU) (Qq []) 3000 60 134 [(true,Xg)] [zI,zI] x=Tx x:=by kernel_rfl
def kW:List (FuncId×Sg):=(134,⟨[(true,Xg)],[zI,zI],Tx⟩)::kU
theorem kX:TabOK Tryz.prog (Ad pu kW):=R1 kV pY
theorem qk (x:AP [(true,T9)]):OE Tryz.prog (Ad pu kW) (Qq []) 3000 60 196 [(true,T9)] [(true,T2),zI,(true,T9),zI] x=UP x:=by kernel_rfl
def kY:List (FuncId×Sg):=(196,⟨[(true,T9)],[(true,T2),zI,(true,T9),zI],UP⟩)::kW
theorem kZ:TabOK Tryz.prog (Ad pu kY):=R1 kX qk
theorem ql (x:AP [(true,Zh),(true,T2)]):OE Tryz.prog (Ad pu kY) (Qq []) 3000 60 197 [(true,Zh),(true,T2)] [(false,.bool),(true,Zh),zI] x=UT x:=by kernel_rfl
def ka:List (FuncId×Sg):=(197,⟨[(true,Zh),(true,T2)],[(false,.bool),(true,Zh),zI],UT⟩)::kY
theorem kc:TabOK Tryz.prog (Ad pu ka):=R1 kZ ql
def nZ:List (Nat×Nat×Nat×An):=[(172,2,81,.loop { keep:=[0,1,6],kb:=[0,1,39,67,68],pl:=[.slot 7 false zJ,.slot 4 false zJ,.box 28 [.lf (.sl false (.sl true T2)),.lf (.sl false zJ),.lf (.sl true T5),.lf (.sl false zJ),.lf zJ,.lf .bool,.lf .str,.lf .bool,.ow true T2 false,.lf zJ]],ex:=[(.ret,[]),(.exit 0,[])],pay:=.unit }),(172,2,98,.loop { keep:=[0,1,6],kb:=[0,1,39,67,68,86],pl:=[.slot 7 false zJ,.slot 4 false zJ,.box 28 [.lf (.sl false (.sl true T2)),.lf (.sl false zJ),.lf (.sl true T5),.lf (.sl false zJ),.lf zJ,.lf .bool,.lf .str,.lf .bool,.ow true T2 false,.lf zJ]],ex:=[(.ret,[]),(.exit 0,[])],pay:=.unit }),(172,2,133,.loop { keep:=[0,1,6],kb:=[0,1,39,67,68,86],pl:=[.slot 7 false zJ,.slot 4 false zJ,.box 28 [.lf (.sl false (.sl true T2)),.lf (.sl false zJ),.lf (.sl true T5),.lf (.sl false zJ),.lf zJ,.lf .bool,.lf .str,.lf .bool,.ow true T2 false,.lf zJ]],ex:=[(.ret,[]),(.exit 0,[])],pay:=.unit }),(172,2,120,.loop { keep:=[0,1,6],kb:=[0,1,39,67,68,86],pl:=[.slot 7 false zJ,.slot 4 false zJ,.box 28 [.lf (.sl false (.sl true T2)),.lf (.sl false zJ),.lf (.sl true T5),.lf (.sl false zJ),.lf zJ,.lf .bool,.lf .str,.lf .bool,.ow true T2 false,.lf zJ]],ex:=[(.ret,[]),(.exit 0,[])],pay:=.unit })]
theorem pj (x:AP [(true,Xg),zI]):OE Tryz.prog (Ad pu ka) (Qq nZ) 3000 60 137 [(true,Xg),zI] [(true,Xg),zI,zI] x=UO x:=by kernel_rfl
def ke:List (FuncId×Sg):=(137,⟨[(true,Xg),zI],[(true,Xg),zI,zI],UO⟩)::ka
theorem kg:TabOK Tryz.prog (Ad pu ke):=R1 kc pj
def oK:List (Nat×Nat×Nat×An):=[(200,4,9,.loop { keep:=[0,1,7,11,9,8,12,6,10],kb:=[],pl:=[.slot 13 false zJ,.slot 4 false .bool],ex:=[(.ret,[]),(.exit 0,[])],pay:=.unit })]
theorem qm (x:AP [(false,(.sl true T2)),(false,(.sl true T2))]):OE Tryz.prog (Ad pu ke) (Qq oK) 3000 60 200 [(false,(.sl true T2)),(false,(.sl true T2))] [(false,.bool)] x=Tw x:=by kernel_rfl
def kh:List (FuncId×Sg):=(200,⟨[(false,(.sl true T2)),(false,(.sl true T2))],[(false,.bool)],Tw⟩)::ke
theorem ki:TabOK Tryz.prog (Ad pu kh):=R1 kg qm
theorem qV (x:AP [(false,(.sl true T2)),(false,(.sl true T2))]):OE Tryz.prog (Ad pu kh) (Qq []) 3000 60 182 [(false,(.sl true T2)),(false,(.sl true T2))] [(false,.bool)] x=UG x:=by kernel_rfl
def kj:List (FuncId×Sg):=(182,⟨[(false,(.sl true T2)),(false,(.sl true T2))],[(false,.bool)],UG⟩)::kh
theorem kl:TabOK Tryz.prog (Ad pu kj):=R1 ki qV
def nj:List (Nat×Nat×Nat×An):=[(181,4,81,.loop { keep:=[0,1,15,11,13,2,16,12,10,14],kb:=[0,1,7,8],pl:=[.slot 17 false zJ,.slot 6 false .bool],ex:=[(.ret,[]),(.exit 0,[])],pay:=.unit })]
theorem p8 (x:AP [(true,Xg),(true,Xg)]):OE Tryz.prog (Ad pu kj) (Qq nj) 3000 60 146 [(true,Xg),(true,Xg)] [(false,.bool)] x=VD x:=by kernel_rfl
def km:List (FuncId×Sg):=(146,⟨[(true,Xg),(true,Xg)],[(false,.bool)],VD⟩)::kj
theorem kn:TabOK Tryz.prog (Ad pu km):=R1 kl p8
def pH:List (Nat×Nat×Nat×An):=[(168,1,52,.loop { keep:=[0,1,7,5,6],kb:=[0,47,35,46],pl:=[.slot 8 false zJ,.box 43 [.ow false zJ false]],ex:=[(.exit 0,[(47,0,none)])],pay:=.unit }),(97,10,59,.loop { keep:=[0,1,15,31,47,23,39,19,35,27,43,17,33,25,41,21,37,29,45,4,16,32,40,20,36,28,44,18,34,26,42,14,22,38,30,46],kb:=[0,47,35,43,52],pl:=[.slot 3 false zJ,.slot 2 false zJ,.slot 48 false zJ],ex:=[(.ret,[(47,3,none)]),(.exit 1,[(47,3,none)])],pay:=.unit })]
theorem tU (x:AP [(true,Vt)]):OE Tryz.prog (Ad pu km) (Qq pH) 3000 60 97 [(true,Vt)] [zI,zI] x=UV x:=by kernel_rfl
def ko:List (FuncId×Sg):=(97,⟨[(true,Vt)],[zI,zI],UV⟩)::km
theorem kq:TabOK Tryz.prog (Ad pu ko):=R1 kn tU
def pE:List (Nat×Nat×Nat×An):=[(168,1,35,.loop { keep:=[0,1,7,5,6],kb:=[0,29,18,30],pl:=[.slot 8 false zJ,.box 26 [.ow false zJ false]],ex:=[(.exit 0,[(30,0,none)])],pay:=.unit })]
theorem tL (x:AP [(true,Vt)]):OE Tryz.prog (Ad pu ko) (Qq pE) 3000 60 90 [(true,Vt)] [(false,(.sl false zJ)),zI] x=V1 x:=by kernel_rfl
def kr:List (FuncId×Sg):=(90,⟨[(true,Vt)],[(false,(.sl false zJ)),zI],V1⟩)::ko
theorem ks:TabOK Tryz.prog (Ad pu kr):=R1 kq tL
def o7:List (Nat×Nat×Nat×An):=[(148,2,31,.loop { keep:=[0,1,7,6],kb:=[0,1],pl:=[.slot 4 false zJ,.slot 8 false zJ],ex:=[(.ret,[]),(.exit 0,[])],pay:=.unit })]
theorem sx (x:AP [(true,Vt),zI]):OE Tryz.prog (Ad pu kr) (Qq o7) 3000 60 53 [(true,Vt),zI] [zI,zI] x=Uy x:=by kernel_rfl
def ku:List (FuncId×Sg):=(53,⟨[(true,Vt),zI],[zI,zI],Uy⟩)::kr
theorem kw:TabOK Tryz.prog (Ad pu ku):=R1 ks sx
end Go.Proofs.YtfilfloanndddaaGreat.Pt
