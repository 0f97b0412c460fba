/- The evaluator comes to each of the plain functions. No condition. -/
import Derived.Test.YtfilfloanndddaaGreatPt4
set_option linter.all false
namespace Go.Proofs.YtfilfloanndddaaGreat.Pt
open Go Go.Proofs.YtfilfloanndddaaGreat.Sv Go.Proofs.YtfilfloanndddaaGreat.Pl
set_option maxRecDepth 1000000
set_option linter.unusedVariables false
def mV:List (Nat×Nat×Nat×An):=[(213,5,24,.loop { keep:=[0,1,15,19,17,2,8,16,20,18,14],kb:=[],pl:=[.slot 7 false zJ,.slot 21 false zJ,.slot 6 false zJ,.box 19 [.lf .bool,.lf .str,.lf .bool],.box 0 [.ow true T2 false]],ex:=[(.ret,[]),(.exit 0,[])],pay:=.unit })]
theorem oV (x:AP [(false,(.sl true T2)),(false,.bool)]):OE Tryz.prog (Ad pu jE) (Qq mV) 3000 60 193 [(false,(.sl true T2)),(false,.bool)] [(false,(.sl true T2)),zI,zI] x=Vb x:=by kernel_rfl
def jG:List (FuncId×Sg):=(193,⟨[(false,(.sl true T2)),(false,.bool)],[(false,(.sl true T2)),zI,zI],Vb⟩)::jE
theorem jH:TabOK Tryz.prog (Ad pu jG):=R1 jF oV
def mW:List (Nat×Nat×Nat×An):=[(195,4,9,.loop { keep:=[0,1,7,11,9,13,8,12,10],kb:=[],pl:=[.slot 4 false .bool,.slot 14 false zJ],ex:=[(.ret,[]),(.exit 0,[])],pay:=.unit })]
theorem oX (x:AP [(false,(.sl true T2)),(false,(.sl true T2))]):OE Tryz.prog (Ad pu jG) (Qq mW) 3000 60 195 [(false,(.sl true T2)),(false,(.sl true T2))] [(false,.bool)] x=VQ x:=by kernel_rfl
def jI:List (FuncId×Sg):=(195,⟨[(false,(.sl true T2)),(false,(.sl true T2))],[(false,.bool)],VQ⟩)::jG
theorem jJ:TabOK Tryz.prog (Ad pu jI):=R1 jH oX
def mK:List (Nat×Nat×Nat×An):=[(169,6,18,.loop { keep:=[0,1,3,15,23,19,17,25,21,2,4,16,24,20,18,26,14],kb:=[0],pl:=[.slot 27 false zJ,.slot 5 false zJ],ex:=[(.exit 0,[])],pay:=.unit })]
theorem oE (x:AP [(true,Z1)]):OE Tryz.prog (Ad pu jI) (Qq mK) 3000 60 169 [(true,Z1)] [zI] x=Vu x:=by kernel_rfl
def jK:List (FuncId×Sg):=(169,⟨[(true,Z1)],[zI],Vu⟩)::jI
theorem jL:TabOK Tryz.prog (Ad pu jK):=R1 jJ oE
def mL:List (Nat×Nat×Nat×An):=[(170,6,17,.loop { keep:=[0,1,3,15,11,19,5,9,17,13,2,4,12,10,18,14],kb:=[0],pl:=[.slot 20 false zJ,.slot 6 false zJ],ex:=[(.exit 0,[])],pay:=.unit })]
theorem oF (x:AP [(true,T9)]):OE Tryz.prog (Ad pu jK) (Qq mL) 3000 60 170 [(true,T9)] [zI,zI] x=WW x:=by kernel_rfl
def jM:List (FuncId×Sg):=(170,⟨[(true,T9)],[zI,zI],WW⟩)::jK
theorem jN:TabOK Tryz.prog (Ad pu jM):=R1 jL oF
theorem nV (x:AP [(true,Z1)]):OE Tryz.prog (Ad pu jM) (Qq []) 3000 60 134 [(true,Z1)] [zI,zI] x=UC x:=by kernel_rfl
def jO:List (FuncId×Sg):=(134,⟨[(true,Z1)],[zI,zI],UC⟩)::jM
theorem jP:TabOK Tryz.prog (Ad pu jO):=R1 jN nV
theorem oY (x:AP [(true,T9)]):OE Tryz.prog (Ad pu jO) (Qq []) 3000 60 196 [(true,T9)] [(true,T2),zI,(true,T9),zI] x=UN x:=by kernel_rfl
def jQ:List (FuncId×Sg):=(196,⟨[(true,T9)],[(true,T2),zI,(true,T9),zI],UN⟩)::jO
theorem jR:TabOK Tryz.prog (Ad pu jQ):=R1 jP oY
theorem oZ (x:AP [(true,dR),(true,T2)]):OE Tryz.prog (Ad pu jQ) (Qq []) 3000 60 197 [(true,dR),(true,T2)] [(false,.bool),(true,dR),zI] x=UR x:=by kernel_rfl
def jS:List (FuncId×Sg):=(197,⟨[(true,dR),(true,T2)],[(false,.bool),(true,dR),zI],UR⟩)::jQ
theorem jT:TabOK Tryz.prog (Ad pu jS):=R1 jR oZ
def mC:List (Nat×Nat×Nat×An):=[(172,2,81,.loop { keep:=[0,1,6],kb:=[0,1,39,67,68],pl:=[.slot 7 false zJ,.slot 4 false zJ,.box 28 [.lf (.sl false (.sl true T2)),.lf (.sl false zJ),.lf (.sl true T5),.lf (.sl false zJ),.lf zJ,.lf .bool,.lf .str,.lf .bool,.ow true T2 false,.lf zJ]],ex:=[(.ret,[]),(.exit 0,[])],pay:=.unit }),(172,2,98,.loop { keep:=[0,1,6],kb:=[0,1,39,67,68,86],pl:=[.slot 7 false zJ,.slot 4 false zJ,.box 28 [.lf (.sl false (.sl true T2)),.lf (.sl false zJ),.lf (.sl true T5),.lf (.sl false zJ),.lf zJ,.lf .bool,.lf .str,.lf .bool,.ow true T2 false,.lf zJ]],ex:=[(.ret,[]),(.exit 0,[])],pay:=.unit }),(172,2,133,.loop { keep:=[0,1,6],kb:=[0,1,39,67,68,86],pl:=[.slot 7 false zJ,.slot 4 false zJ,.box 28 [.lf (.sl false (.sl true T2)),.lf (.sl false zJ),.lf (.sl true T5),.lf (.sl false zJ),.lf zJ,.lf .bool,.lf .str,.lf .bool,.ow true T2 false,.lf zJ]],ex:=[(.ret,[]),(.exit 0,[])],pay:=.unit }),(172,2,120,.loop { keep:=[0,1,6],kb:=[0,1,39,67,68,86],pl:=[.slot 7 false zJ,.slot 4 false zJ,.box 28 [.lf (.sl false (.sl true T2)),.lf (.sl false zJ),.lf (.sl true T5),.lf (.sl false zJ),.lf zJ,.lf .bool,.lf .str,.lf .bool,.ow true T2 false,.lf zJ]],ex:=[(.ret,[]),(.exit 0,[])],pay:=.unit })]
theorem nZ (x:AP [(true,Z1),zI]):OE Tryz.prog (Ad pu jS) (Qq mC) 3000 60 137 [(true,Z1),zI] [(true,Z1),zI,zI] x=UL x:=by kernel_rfl
def jU:List (FuncId×Sg):=(137,⟨[(true,Z1),zI],[(true,Z1),zI,zI],UL⟩)::jS
theorem jV:TabOK Tryz.prog (Ad pu jU):=R1 jT nZ
def mX:List (Nat×Nat×Nat×An):=[(200,4,9,.loop { keep:=[0,1,7,11,9,8,12,6,10],kb:=[],pl:=[.slot 13 false zJ,.slot 4 false .bool],ex:=[(.ret,[]),(.exit 0,[])],pay:=.unit })]
theorem oa (x:AP [(false,(.sl true T2)),(false,(.sl true T2))]):OE Tryz.prog (Ad pu jU) (Qq mX) 3000 60 200 [(false,(.sl true T2)),(false,(.sl true T2))] [(false,.bool)] x=Tu x:=by kernel_rfl
def jW:List (FuncId×Sg):=(200,⟨[(false,(.sl true T2)),(false,(.sl true T2))],[(false,.bool)],Tu⟩)::jU
theorem jX:TabOK Tryz.prog (Ad pu jW):=R1 jV oa
theorem oM (x:AP [(false,(.sl true T2)),(false,(.sl true T2))]):OE Tryz.prog (Ad pu jW) (Qq []) 3000 60 182 [(false,(.sl true T2)),(false,(.sl true T2))] [(false,.bool)] x=UG x:=by kernel_rfl
def jY:List (FuncId×Sg):=(182,⟨[(false,(.sl true T2)),(false,(.sl true T2))],[(false,.bool)],UG⟩)::jW
theorem jZ:TabOK Tryz.prog (Ad pu jY):=R1 jX oM
def mH:List (Nat×Nat×Nat×An):=[(181,4,81,.loop { keep:=[0,1,15,11,13,2,16,12,10,14],kb:=[0,1,7,8],pl:=[.slot 17 false zJ,.slot 6 false .bool],ex:=[(.ret,[]),(.exit 0,[])],pay:=.unit })]
theorem nq (x:AP [(true,Z1),(true,Z1)]):OE Tryz.prog (Ad pu jY) (Qq mH) 3000 60 146 [(true,Z1),(true,Z1)] [(false,.bool)] x=U9 x:=by kernel_rfl
def ja:List (FuncId×Sg):=(146,⟨[(true,Z1),(true,Z1)],[(false,.bool)],U9⟩)::jY
theorem jc:TabOK Tryz.prog (Ad pu ja):=R1 jZ nq
def nN:List (Nat×Nat×Nat×An):=[(168,1,52,.loop { keep:=[0,1,7,5,6],kb:=[0,47,35,46],pl:=[.slot 8 false zJ,.box 43 [.ow false zJ false]],ex:=[(.exit 0,[(47,0,none)])],pay:=.unit }),(97,10,59,.loop { keep:=[0,1,15,31,47,23,39,19,35,27,43,17,33,25,41,21,37,29,45,4,16,32,40,20,36,28,44,18,34,26,42,14,22,38,30,46],kb:=[0,47,35,43,52],pl:=[.slot 3 false zJ,.slot 2 false zJ,.slot 48 false zJ],ex:=[(.ret,[(47,3,none)]),(.exit 1,[(47,3,none)])],pay:=.unit })]
theorem qj (x:AP [(true,WR)]):OE Tryz.prog (Ad pu ja) (Qq nN) 3000 60 97 [(true,WR)] [zI,zI] x=UT x:=by kernel_rfl
def jd:List (FuncId×Sg):=(97,⟨[(true,WR)],[zI,zI],UT⟩)::ja
theorem je:TabOK Tryz.prog (Ad pu jd):=R1 jc qj
def nK:List (Nat×Nat×Nat×An):=[(168,1,35,.loop { keep:=[0,1,7,5,6],kb:=[0,29,18,30],pl:=[.slot 8 false zJ,.box 26 [.ow false zJ false]],ex:=[(.exit 0,[(30,0,none)])],pay:=.unit })]
theorem qZ (x:AP [(true,WR)]):OE Tryz.prog (Ad pu jd) (Qq nK) 3000 60 90 [(true,WR)] [(false,(.sl false zJ)),zI] x=Vo x:=by kernel_rfl
def jf:List (FuncId×Sg):=(90,⟨[(true,WR)],[(false,(.sl false zJ)),zI],Vo⟩)::jd
theorem jg:TabOK Tryz.prog (Ad pu jf):=R1 je qZ
def nF:List (Nat×Nat×Nat×An):=[(148,2,31,.loop { keep:=[0,1,7,6],kb:=[0,1],pl:=[.slot 4 false zJ,.slot 8 false zJ],ex:=[(.ret,[]),(.exit 0,[])],pay:=.unit })]
theorem qS (x:AP [(true,WR),zI]):OE Tryz.prog (Ad pu jf) (Qq nF) 3000 60 53 [(true,WR),zI] [zI,zI] x=VU x:=by kernel_rfl
def jh:List (FuncId×Sg):=(53,⟨[(true,WR),zI],[zI,zI],VU⟩)::jf
theorem ji:TabOK Tryz.prog (Ad pu jh):=R1 jg qS
end Go.Proofs.YtfilfloanndddaaGreat.Pt
