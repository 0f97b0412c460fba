/- The evaluator comes to each of the plain functions. No condition. -/
import Derived.Test.YtfilfloanndddaaGreatPt4
set_option linter.all false
namespace Go.Proofs.YtfilfloanndddaaGreat.Pt
open Go Go.Proofs.YtfilfloanndddaaGreat.Sv Go.Proofs.YtfilfloanndddaaGreat.Pl
set_option maxRecDepth 1000000
set_option linter.unusedVariables false
def nv:List (Nat×Nat×Nat×An):=[(213,5,24,.loop { keep:=[0,1,15,19,17,2,8,16,20,18,14],kb:=[],pl:=[.slot 7 false zJ,.slot 21 false zJ,.slot 6 false zJ,.box 19 [.lf .bool,.lf .str,.lf .bool],.box 0 [.ow true T2 false]],ex:=[(.ret,[]),(.exit 0,[])],pay:=.unit })]
theorem qZ (x:AP [(false,(.sl true T2)),(false,.bool)]):OE Tryz.prog (Ad pu j0) (Qq nv) 3000 60 193 [(false,(.sl true T2)),(false,.bool)] [(false,(.sl true T2)),zI,zI] x=Vk x:=by kernel_rfl
def j8:List (FuncId×Sg):=(193,⟨[(false,(.sl true T2)),(false,.bool)],[(false,(.sl true T2)),zI,zI],Vk⟩)::j0
theorem j9:TabOK Tryz.prog (Ad pu j8):=R1 j7 qZ
def ny:List (Nat×Nat×Nat×An):=[(195,4,9,.loop { keep:=[0,1,7,11,9,13,8,12,10],kb:=[],pl:=[.slot 4 false .bool,.slot 14 false zJ],ex:=[(.ret,[]),(.exit 0,[])],pay:=.unit })]
theorem qd (x:AP [(false,(.sl true T2)),(false,(.sl true T2))]):OE Tryz.prog (Ad pu j8) (Qq ny) 3000 60 195 [(false,(.sl true T2)),(false,(.sl true T2))] [(false,.bool)] x=VY x:=by kernel_rfl
def kA:List (FuncId×Sg):=(195,⟨[(false,(.sl true T2)),(false,(.sl true T2))],[(false,.bool)],VY⟩)::j8
theorem kB:TabOK Tryz.prog (Ad pu kA):=R1 j9 qd
def ng:List (Nat×Nat×Nat×An):=[(169,6,18,.loop { keep:=[0,1,3,15,23,19,17,25,21,2,4,16,24,20,18,26,14],kb:=[0],pl:=[.slot 27 false zJ,.slot 5 false zJ],ex:=[(.exit 0,[])],pay:=.unit })]
theorem qI (x:AP [(true,Xc)]):OE Tryz.prog (Ad pu kA) (Qq ng) 3000 60 169 [(true,Xc)] [zI] x=V2 x:=by kernel_rfl
def kC:List (FuncId×Sg):=(169,⟨[(true,Xc)],[zI],V2⟩)::kA
theorem kD:TabOK Tryz.prog (Ad pu kC):=R1 kB qI
def nh:List (Nat×Nat×Nat×An):=[(170,6,17,.loop { keep:=[0,1,3,15,11,19,5,9,17,13,2,4,12,10,18,14],kb:=[0],pl:=[.slot 20 false zJ,.slot 6 false zJ],ex:=[(.exit 0,[])],pay:=.unit })]
theorem qJ (x:AP [(true,T9)]):OE Tryz.prog (Ad pu kC) (Qq nh) 3000 60 170 [(true,T9)] [zI,zI] x=Wj x:=by kernel_rfl
def kF:List (FuncId×Sg):=(170,⟨[(true,T9)],[zI,zI],Wj⟩)::kC
theorem kG:TabOK Tryz.prog (Ad pu kF):=R1 kD qJ
theorem pT (x:AP [(true,Xc)]):OE Tryz.prog (Ad pu kF) (Qq []) 3000 60 134 [(true,Xc)] [zI,zI] x=UD x:=by kernel_rfl
def kH:List (FuncId×Sg):=(134,⟨[(true,Xc)],[zI,zI],UD⟩)::kF
theorem kI:TabOK Tryz.prog (Ad pu kH):=R1 kG pT
theorem qf (x:AP [(true,T9)]):OE Tryz.prog (Ad pu kH) (Qq []) 3000 60 196 [(true,T9)] [(true,T2),zI,(true,T9),zI] x=UQ x:=by kernel_rfl
def kJ:List (FuncId×Sg):=(196,⟨[(true,T9)],[(true,T2),zI,(true,T9),zI],UQ⟩)::kH
theorem kK:TabOK Tryz.prog (Ad pu kJ):=R1 kI qf
theorem qg (x:AP [(true,Zb),(true,T2)]):OE Tryz.prog (Ad pu kJ) (Qq []) 3000 60 197 [(true,Zb),(true,T2)] [(false,.bool),(true,Zb),zI] x=UU x:=by kernel_rfl
def kL:List (FuncId×Sg):=(197,⟨[(true,Zb),(true,T2)],[(false,.bool),(true,Zb),zI],UU⟩)::kJ
theorem kM:TabOK Tryz.prog (Ad pu kL):=R1 kK qg
def nM:List (Nat×Nat×Nat×An):=[(172,2,81,.loop { keep:=[0,1,6],kb:=[0,1,39,67,68],pl:=[.slot 7 false zJ,.slot 4 false zJ,.box 28 [.lf (.sl false (.sl true T2)),.lf (.sl false zJ),.lf (.sl true T5),.lf (.sl false zJ),.lf zJ,.lf .bool,.lf .str,.lf .bool,.ow true T2 false,.lf zJ]],ex:=[(.ret,[]),(.exit 0,[])],pay:=.unit }),(172,2,98,.loop { keep:=[0,1,6],kb:=[0,1,39,67,68,86],pl:=[.slot 7 false zJ,.slot 4 false zJ,.box 28 [.lf (.sl false (.sl true T2)),.lf (.sl false zJ),.lf (.sl true T5),.lf (.sl false zJ),.lf zJ,.lf .bool,.lf .str,.lf .bool,.ow true T2 false,.lf zJ]],ex:=[(.ret,[]),(.exit 0,[])],pay:=.unit }),(172,2,133,.loop { keep:=[0,1,6],kb:=[0,1,39,67,68,86],pl:=[.slot 7 false zJ,.slot 4 false zJ,.box 28 [.lf (.sl false (.sl true T2)),.lf (.sl false zJ),.lf (.sl true T5),.lf (.sl false zJ),.lf zJ,.lf .bool,.lf .str,.lf .bool,.ow true T2 false,.lf zJ]],ex:=[(.ret,[]),(.exit 0,[])],pay:=.unit }),(172,2,120,.loop { keep:=[0,1,6],kb:=[0,1,39,67,68,86],pl:=[.slot 7 false zJ,.slot 4 false zJ,.box 28 [.lf (.sl false (.sl true T2)),.lf (.sl false zJ),.lf (.sl true T5),.lf (.sl false zJ),.lf zJ,.lf .bool,.lf .str,.lf .bool,.ow true T2 false,.lf zJ]],ex:=[(.ret,[]),(.exit 0,[])],pay:=.unit })]
theorem pW (x:AP [(true,Xc),zI]):OE Tryz.prog (Ad pu kL) (Qq nM) 3000 60 137 [(true,Xc),zI] [(true,Xc),zI,zI] x=UO x:=by kernel_rfl
def kO:List (FuncId×Sg):=(137,⟨[(true,Xc),zI],[(true,Xc),zI,zI],UO⟩)::kL
theorem kP:TabOK Tryz.prog (Ad pu kO):=R1 kM pW
def nz:List (Nat×Nat×Nat×An):=[(200,4,9,.loop { keep:=[0,1,7,11,9,8,12,6,10],kb:=[],pl:=[.slot 13 false zJ,.slot 4 false .bool],ex:=[(.ret,[]),(.exit 0,[])],pay:=.unit })]
theorem qh (x:AP [(false,(.sl true T2)),(false,(.sl true T2))]):OE Tryz.prog (Ad pu kO) (Qq nz) 3000 60 200 [(false,(.sl true T2)),(false,(.sl true T2))] [(false,.bool)] x=Tf x:=by kernel_rfl
def kQ:List (FuncId×Sg):=(200,⟨[(false,(.sl true T2)),(false,(.sl true T2))],[(false,.bool)],Tf⟩)::kO
theorem kS:TabOK Tryz.prog (Ad pu kQ):=R1 kP qh
theorem qQ (x:AP [(false,(.sl true T2)),(false,(.sl true T2))]):OE Tryz.prog (Ad pu kQ) (Qq []) 3000 60 182 [(false,(.sl true T2)),(false,(.sl true T2))] [(false,.bool)] x=UH x:=by kernel_rfl
def kT:List (FuncId×Sg):=(182,⟨[(false,(.sl true T2)),(false,(.sl true T2))],[(false,.bool)],UH⟩)::kQ
theorem kU:TabOK Tryz.prog (Ad pu kT):=R1 kS qQ
def nS:List (Nat×Nat×Nat×An):=[(181,4,81,.loop { keep:=[0,1,15,11,13,2,16,12,10,14],kb:=[0,1,7,8],pl:=[.slot 17 false zJ,.slot 6 false .bool],ex:=[(.ret,[]),(.exit 0,[])],pay:=.unit })]
theorem pq (x:AP [(true,Xc),(true,Xc)]):OE Tryz.prog (Ad pu kT) (Qq nS) 3000 60 146 [(true,Xc),(true,Xc)] [(false,.bool)] x=VD x:=by kernel_rfl
def kV:List (FuncId×Sg):=(146,⟨[(true,Xc),(true,Xc)],[(false,.bool)],VD⟩)::kT
theorem kW:TabOK Tryz.prog (Ad pu kV):=R1 kU pq
def pD:List (Nat×Nat×Nat×An):=[(168,1,52,.loop { keep:=[0,1,7,5,6],kb:=[0,47,35,46],pl:=[.slot 8 false zJ,.box 43 [.ow false zJ false]],ex:=[(.exit 0,[(47,0,none)])],pay:=.unit }),(97,10,59,.loop { keep:=[0,1,15,31,47,23,39,19,35,27,43,17,33,25,41,21,37,29,45,4,16,32,40,20,36,28,44,18,34,26,42,14,22,38,30,46],kb:=[0,47,35,43,52],pl:=[.slot 3 false zJ,.slot 2 false zJ,.slot 48 false zJ],ex:=[(.ret,[(47,3,none)]),(.exit 1,[(47,3,none)])],pay:=.unit })]
theorem tO (x:AP [(true,WG)]):OE Tryz.prog (Ad pu kV) (Qq pD) 3000 60 97 [(true,WG)] [zI,zI] x=UP x:=by kernel_rfl
def kX:List (FuncId×Sg):=(97,⟨[(true,WG)],[zI,zI],UP⟩)::kV
theorem kY:TabOK Tryz.prog (Ad pu kX):=R1 kW tO
def pA:List (Nat×Nat×Nat×An):=[(168,1,35,.loop { keep:=[0,1,7,5,6],kb:=[0,29,18,30],pl:=[.slot 8 false zJ,.box 26 [.ow false zJ false]],ex:=[(.exit 0,[(30,0,none)])],pay:=.unit })]
theorem tH (x:AP [(true,WG)]):OE Tryz.prog (Ad pu kX) (Qq pA) 3000 60 90 [(true,WG)] [(false,(.sl false zJ)),zI] x=Vw x:=by kernel_rfl
def kZ:List (FuncId×Sg):=(90,⟨[(true,WG)],[(false,(.sl false zJ)),zI],Vw⟩)::kX
theorem ka:TabOK Tryz.prog (Ad pu kZ):=R1 kY tH
def ov:List (Nat×Nat×Nat×An):=[(148,2,31,.loop { keep:=[0,1,7,6],kb:=[0,1],pl:=[.slot 4 false zJ,.slot 8 false zJ],ex:=[(.ret,[]),(.exit 0,[])],pay:=.unit })]
theorem ss (x:AP [(true,WG),zI]):OE Tryz.prog (Ad pu kZ) (Qq ov) 3000 60 53 [(true,WG),zI] [zI,zI] x=Vb x:=by kernel_rfl
def kc:List (FuncId×Sg):=(53,⟨[(true,WG),zI],[zI,zI],Vb⟩)::kZ
theorem ke:TabOK Tryz.prog (Ad pu kc):=R1 ka ss
end Go.Proofs.YtfilfloanndddaaGreat.Pt
