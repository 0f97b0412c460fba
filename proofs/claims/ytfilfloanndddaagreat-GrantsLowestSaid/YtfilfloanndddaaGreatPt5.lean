/- The evaluator comes to each of the plain functions. No condition. -/
import Derived.Test.YtfilfloanndddaaGreatPt4
set_option linter.all false
namespace Go.Proofs.YtfilfloanndddaaGreat.Pt
open Go Go.Proofs.YtfilfloanndddaaGreat.Sv Go.Proofs.YtfilfloanndddaaGreat.Pl
set_option maxRecDepth 1000000
set_option linter.unusedVariables false
def o6:List (Nat×Nat×Nat×An):=[(213,5,24,.loop { keep:=[0,1,15,19,17,2,8,16,20,18,14],kb:=[],pl:=[.slot 7 false zJ,.slot 21 false zJ,.slot 6 false zJ,.box 19 [.lf .bool,.lf .str,.lf .bool],.box 0 [.ow true T2 false]],ex:=[(.ret,[]),(.exit 0,[])],pay:=.unit })]
theorem rq (x:AP [(false,(.sl true T2)),(false,.bool)]):OE Tryz.prog (Ad pu lB) (Qq o6) 3000 60 193 [(false,(.sl true T2)),(false,.bool)] [(false,(.sl true T2)),zI,zI] x=Vx x:=by kernel_rfl
def lD:List (FuncId×Sg):=(193,⟨[(false,(.sl true T2)),(false,.bool)],[(false,(.sl true T2)),zI,zI],Vx⟩)::lB
theorem lE:TabOK Tryz.prog (Ad pu lD):=R1 lC rq
def o7:List (Nat×Nat×Nat×An):=[(195,4,9,.loop { keep:=[0,1,7,11,9,13,8,12,10],kb:=[],pl:=[.slot 4 false .bool,.slot 14 false zJ],ex:=[(.ret,[]),(.exit 0,[])],pay:=.unit })]
theorem ru (x:AP [(false,(.sl true T2)),(false,(.sl true T2))]):OE Tryz.prog (Ad pu lD) (Qq o7) 3000 60 195 [(false,(.sl true T2)),(false,(.sl true T2))] [(false,.bool)] x=Vh x:=by kernel_rfl
def lF:List (FuncId×Sg):=(195,⟨[(false,(.sl true T2)),(false,(.sl true T2))],[(false,.bool)],Vh⟩)::lD
theorem lG:TabOK Tryz.prog (Ad pu lF):=R1 lE ru
def og:List (Nat×Nat×Nat×An):=[(169,6,18,.loop { keep:=[0,1,3,15,23,19,17,25,21,2,4,16,24,20,18,26,14],kb:=[0],pl:=[.slot 27 false zJ,.slot 5 false zJ],ex:=[(.exit 0,[])],pay:=.unit })]
theorem rL (x:AP [(true,Xn)]):OE Tryz.prog (Ad pu lF) (Qq og) 3000 60 169 [(true,Xn)] [zI] x=WF x:=by kernel_rfl
def lH:List (FuncId×Sg):=(169,⟨[(true,Xn)],[zI],WF⟩)::lF
theorem lI:TabOK Tryz.prog (Ad pu lH):=R1 lG rL
def oh:List (Nat×Nat×Nat×An):=[(170,6,17,.loop { keep:=[0,1,3,15,11,19,5,9,17,13,2,4,12,10,18,14],kb:=[0],pl:=[.slot 20 false zJ,.slot 6 false zJ],ex:=[(.exit 0,[])],pay:=.unit })]
theorem rM (x:AP [(true,T9)]):OE Tryz.prog (Ad pu lH) (Qq oh) 3000 60 170 [(true,T9)] [zI,zI] x=Wp x:=by kernel_rfl
def lJ:List (FuncId×Sg):=(170,⟨[(true,T9)],[zI,zI],Wp⟩)::lH
theorem lK:TabOK Tryz.prog (Ad pu lJ):=R1 lI rM
theorem qg (x:AP [(true,Xn)]):OE Tryz.prog (Ad pu lJ) (Qq []) 3000 60 134 [(true,Xn)] [zI,zI] x=UD x:=by kernel_rfl
def lL:List (FuncId×Sg):=(134,⟨[(true,Xn)],[zI,zI],UD⟩)::lJ
theorem lM:TabOK Tryz.prog (Ad pu lL):=R1 lK qg
theorem rx (x:AP [(true,T9)]):OE Tryz.prog (Ad pu lL) (Qq []) 3000 60 196 [(true,T9)] [(true,T2),zI,(true,T9),zI] x=UP x:=by kernel_rfl
def lN:List (FuncId×Sg):=(196,⟨[(true,T9)],[(true,T2),zI,(true,T9),zI],UP⟩)::lL
theorem lO:TabOK Tryz.prog (Ad pu lN):=R1 lM rx
theorem ry (x:AP [(true,Zm),(true,T2)]):OE Tryz.prog (Ad pu lN) (Qq []) 3000 60 197 [(true,Zm),(true,T2)] [(false,.bool),(true,Zm),zI] x=UT x:=by kernel_rfl
def lQ:List (FuncId×Sg):=(197,⟨[(true,Zm),(true,T2)],[(false,.bool),(true,Zm),zI],UT⟩)::lN
theorem lR:TabOK Tryz.prog (Ad pu lQ):=R1 lO ry
def oR:List (Nat×Nat×Nat×An):=[(172,2,81,.loop { keep:=[0,1,6],kb:=[0,1,39,67,68],pl:=[.slot 7 false zJ,.slot 4 false zJ,.box 28 [.lf (.sl false (.sl true T2)),.lf (.sl false zJ),.lf (.sl true T5),.lf (.sl false zJ),.lf zJ,.lf .bool,.lf .str,.lf .bool,.ow true T2 false,.lf zJ]],ex:=[(.ret,[]),(.exit 0,[])],pay:=.unit }),(172,2,98,.loop { keep:=[0,1,6],kb:=[0,1,39,67,68,86],pl:=[.slot 7 false zJ,.slot 4 false zJ,.box 28 [.lf (.sl false (.sl true T2)),.lf (.sl false zJ),.lf (.sl true T5),.lf (.sl false zJ),.lf zJ,.lf .bool,.lf .str,.lf .bool,.ow true T2 false,.lf zJ]],ex:=[(.ret,[]),(.exit 0,[])],pay:=.unit }),(172,2,133,.loop { keep:=[0,1,6],kb:=[0,1,39,67,68,86],pl:=[.slot 7 false zJ,.slot 4 false zJ,.box 28 [.lf (.sl false (.sl true T2)),.lf (.sl false zJ),.lf (.sl true T5),.lf (.sl false zJ),.lf zJ,.lf .bool,.lf .str,.lf .bool,.ow true T2 false,.lf zJ]],ex:=[(.ret,[]),(.exit 0,[])],pay:=.unit }),(172,2,120,.loop { keep:=[0,1,6],kb:=[0,1,39,67,68,86],pl:=[.slot 7 false zJ,.slot 4 false zJ,.box 28 [.lf (.sl false (.sl true T2)),.lf (.sl false zJ),.lf (.sl true T5),.lf (.sl false zJ),.lf zJ,.lf .bool,.lf .str,.lf .bool,.ow true T2 false,.lf zJ]],ex:=[(.ret,[]),(.exit 0,[])],pay:=.unit })]
theorem qj (x:AP [(true,Xn),zI]):OE Tryz.prog (Ad pu lQ) (Qq oR) 3000 60 137 [(true,Xn),zI] [(true,Xn),zI,zI] x=UO x:=by kernel_rfl
def lS:List (FuncId×Sg):=(137,⟨[(true,Xn),zI],[(true,Xn),zI,zI],UO⟩)::lQ
theorem lT:TabOK Tryz.prog (Ad pu lS):=R1 lR qj
def o8:List (Nat×Nat×Nat×An):=[(200,4,9,.loop { keep:=[0,1,7,11,9,8,12,6,10],kb:=[],pl:=[.slot 13 false zJ,.slot 4 false .bool],ex:=[(.ret,[]),(.exit 0,[])],pay:=.unit })]
theorem sB (x:AP [(false,(.sl true T2)),(false,(.sl true T2))]):OE Tryz.prog (Ad pu lS) (Qq o8) 3000 60 200 [(false,(.sl true T2)),(false,(.sl true T2))] [(false,.bool)] x=Tx x:=by kernel_rfl
def lU:List (FuncId×Sg):=(200,⟨[(false,(.sl true T2)),(false,(.sl true T2))],[(false,.bool)],Tx⟩)::lS
theorem lV:TabOK Tryz.prog (Ad pu lU):=R1 lT sB
theorem rU (x:AP [(false,(.sl true T2)),(false,(.sl true T2))]):OE Tryz.prog (Ad pu lU) (Qq []) 3000 60 182 [(false,(.sl true T2)),(false,(.sl true T2))] [(false,.bool)] x=UG x:=by kernel_rfl
def lW:List (FuncId×Sg):=(182,⟨[(false,(.sl true T2)),(false,(.sl true T2))],[(false,.bool)],UG⟩)::lU
theorem lX:TabOK Tryz.prog (Ad pu lW):=R1 lV rU
def oW:List (Nat×Nat×Nat×An):=[(181,4,81,.loop { keep:=[0,1,15,11,13,2,16,12,10,14],kb:=[0,1,7,8],pl:=[.slot 17 false zJ,.slot 6 false .bool],ex:=[(.ret,[]),(.exit 0,[])],pay:=.unit })]
theorem qu (x:AP [(true,Xn),(true,Xn)]):OE Tryz.prog (Ad pu lW) (Qq oW) 3000 60 146 [(true,Xn),(true,Xn)] [(false,.bool)] x=VH x:=by kernel_rfl
def lY:List (FuncId×Sg):=(146,⟨[(true,Xn),(true,Xn)],[(false,.bool)],VH⟩)::lW
theorem lZ:TabOK Tryz.prog (Ad pu lY):=R1 lX qu
def qI:List (Nat×Nat×Nat×An):=[(168,1,52,.loop { keep:=[0,1,7,5,6],kb:=[0,47,35,46],pl:=[.slot 8 false zJ,.box 43 [.ow false zJ false]],ex:=[(.exit 0,[(47,0,none)])],pay:=.unit }),(97,10,59,.loop { keep:=[0,1,15,31,47,23,39,19,35,27,43,17,33,25,41,21,37,29,45,4,16,32,40,20,36,28,44,18,34,26,42,14,22,38,30,46],kb:=[0,47,35,43,52],pl:=[.slot 3 false zJ,.slot 2 false zJ,.slot 48 false zJ],ex:=[(.ret,[(47,3,none)]),(.exit 1,[(47,3,none)])],pay:=.unit })]
theorem uh (x:AP [(true,Ur)]):OE Tryz.prog (Ad pu lY) (Qq qI) 3000 60 97 [(true,Ur)] [zI,zI] x=UV x:=by kernel_rfl
def ld:List (FuncId×Sg):=(97,⟨[(true,Ur)],[zI,zI],UV⟩)::lY
theorem lg:TabOK Tryz.prog (Ad pu ld):=R1 lZ uh
def qF:List (Nat×Nat×Nat×An):=[(168,1,35,.loop { keep:=[0,1,7,5,6],kb:=[0,29,18,30],pl:=[.slot 8 false zJ,.box 26 [.ow false zJ false]],ex:=[(.exit 0,[(30,0,none)])],pay:=.unit })]
theorem ua (x:AP [(true,Ur)]):OE Tryz.prog (Ad pu ld) (Qq qF) 3000 60 90 [(true,Ur)] [(false,(.sl false zJ)),zI] x=V7 x:=by kernel_rfl
def lh:List (FuncId×Sg):=(90,⟨[(true,Ur)],[(false,(.sl false zJ)),zI],V7⟩)::ld
theorem lj:TabOK Tryz.prog (Ad pu lh):=R1 lg ua
def pz:List (Nat×Nat×Nat×An):=[(148,2,31,.loop { keep:=[0,1,7,6],kb:=[0,1],pl:=[.slot 4 false zJ,.slot 8 false zJ],ex:=[(.ret,[]),(.exit 0,[])],pay:=.unit })]
theorem uI (x:AP [(true,Ur),zI]):OE Tryz.prog (Ad pu lh) (Qq pz) 3000 60 53 [(true,Ur),zI] [zI,zI] x=Vj x:=by kernel_rfl
def lm:List (FuncId×Sg):=(53,⟨[(true,Ur),zI],[zI,zI],Vj⟩)::lh
theorem lq:TabOK Tryz.prog (Ad pu lm):=R1 lj uI
end Go.Proofs.YtfilfloanndddaaGreat.Pt
