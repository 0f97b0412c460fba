/- The evaluator comes to each of the plain functions. No condition. -/
import Derived.Test.YtfilfloanndddaaGreatPt8
set_option linter.all false
namespace Go.Proofs.YtfilfloanndddaaGreat.Pt
open Go Go.Proofs.YtfilfloanndddaaGreat.Sv Go.Proofs.YtfilfloanndddaaGreat.Pl
set_option maxRecDepth 1000000
set_option linter.unusedVariables false
def oZ:List (Nat×Nat×Nat×An):=[(28,10,42,.loop { keep:=[0,1,7,31,23,39,19,35,27,43,5,17,33,49,25,41,21,37,29,45,4,16,32,48,24,40,20,36,28,44,6,18,34,50,26,42,22,38,30,46],kb:=[0],pl:=[.slot 3 false zJ,.slot 2 false zJ,.slot 8 false zJ],ex:=[(.ret,[]),(.exit 0,[])],pay:=.unit })]
theorem sc (x:AP [(true,Ub)]):OE Tryz.prog (Ad pu cm) (Qq oZ) 3000 60 28 [(true,Ub)] [zI,zI] x=U0 x:=by kernel_rfl
def cp:List (FuncId×Sg):=(28,⟨[(true,Ub)],[zI,zI],U0⟩)::cm
theorem fJ:TabOK Tryz.prog (Ad pu cp):=R1 fI sc
theorem o6 (x:AP [(true,Ub)]):OE Tryz.prog (Ad pu cp) (Qq []) 3000 60 102 [(true,Ub)] [(false,(.sl false zJ)),zI] x=U9 x:=by kernel_rfl
def cq:List (FuncId×Sg):=(102,⟨[(true,Ub)],[(false,(.sl false zJ)),zI],U9⟩)::cp
theorem fK:TabOK Tryz.prog (Ad pu cq):=R1 fJ o6
def od:List (Nat×Nat×Nat×An):=[(55,5,13,.loop { keep:=[0,1,7,15,11,9,13,2,12,6,10,14],kb:=[0],pl:=[.slot 5 false zJ,.slot 4 false zJ,.slot 8 false zJ],ex:=[(.ret,[]),(.exit 0,[])],pay:=.unit })]
theorem ss (x:AP [(true,Ub),zI]):OE Tryz.prog (Ad pu cq) (Qq od) 3000 60 55 [(true,Ub),zI] [zI,zI] x=To x:=by kernel_rfl
def cr:List (FuncId×Sg):=(55,⟨[(true,Ub),zI],[zI,zI],To⟩)::cq
theorem fL:TabOK Tryz.prog (Ad pu cr):=R1 fK ss
theorem sv (x:AP [(true,Ub),zI]):OE Tryz.prog (Ad pu cr) (Qq []) 3000 60 57 [(true,Ub),zI] [zI,zI] x=Uh x:=by kernel_rfl
def cu:List (FuncId×Sg):=(57,⟨[(true,Ub),zI],[zI,zI],Uh⟩)::cr
theorem fM:TabOK Tryz.prog (Ad pu cu):=R1 fL sv
theorem o7 (x:AP [zI,zI]):OE Tryz.prog (Ad pu cu) (Qq []) 3000 60 103 [zI,zI] [zI,zI] x=Wp x:=by kernel_rfl
def cv:List (FuncId×Sg):=(103,⟨[zI,zI],[zI,zI],Wp⟩)::cu
theorem fN:TabOK Tryz.prog (Ad pu cv):=R1 fM o7
theorem sx (x:AP [(true,Ub),(true,Xw)]):OE Tryz.prog (Ad pu cv) (Qq []) 3000 60 58 [(true,Ub),(true,Xw)] [(false,.bool)] x=VP x:=by kernel_rfl
def cw:List (FuncId×Sg):=(58,⟨[(true,Ub),(true,Xw)],[(false,.bool)],VP⟩)::cv
theorem fO:TabOK Tryz.prog (Ad pu cw):=R1 fN sx
theorem sy (x:AP [(true,Ub),zI]):OE Tryz.prog (Ad pu cw) (Qq []) 3000 60 59 [(true,Ub),zI] [(false,.bool)] x=Wq x:=by kernel_rfl
def cx:List (FuncId×Sg):=(59,⟨[(true,Ub),zI],[(false,.bool)],Wq⟩)::cw
theorem fQ:TabOK Tryz.prog (Ad pu cx):=R1 fO sy
theorem sY (x:AP [(true,Ub),zI]):OE Tryz.prog (Ad pu cx) (Qq []) 3000 60 22 [(true,Ub),zI] [(false,.bool),zI] x=VZ x:=by kernel_rfl
def cy:List (FuncId×Sg):=(22,⟨[(true,Ub),zI],[(false,.bool),zI],VZ⟩)::cx
theorem fR:TabOK Tryz.prog (Ad pu cy):=R1 fQ sY
def ot:List (Nat×Nat×Nat×An):=[(73,7,16,.loop { keep:=[0,1,15,11,19,5,9,17,13,4,12,10,18,14],kb:=[0],pl:=[.slot 3 false zJ,.slot 2 false zJ,.slot 6 false zJ],ex:=[(.ret,[]),(.exit 0,[])],pay:=.unit })]
theorem tM (x:AP [(true,Ub)]):OE Tryz.prog (Ad pu cy) (Qq ot) 3000 60 73 [(true,Ub)] [zI,zI] x=WE x:=by kernel_rfl
def cz:List (FuncId×Sg):=(73,⟨[(true,Ub)],[zI,zI],WE⟩)::cy
theorem fS:TabOK Tryz.prog (Ad pu cz):=R1 fR tM
theorem tA (x:AP [(true,Ub),zI,zI]):OE Tryz.prog (Ad pu cz) (Qq []) 3000 60 60 [(true,Ub),zI,zI] [(true,Ub),zI,zI] x=WD x:=by kernel_rfl
def c0:List (FuncId×Sg):=(60,⟨[(true,Ub),zI,zI],[(true,Ub),zI,zI],WD⟩)::cz
theorem fT:TabOK Tryz.prog (Ad pu c0):=R1 fS tA
theorem o9 (x:AP [(true,Ub),zI]):OE Tryz.prog (Ad pu c0) (Qq []) 3000 60 105 [(true,Ub),zI] [zI,zI] x=V3 x:=by kernel_rfl
def dA:List (FuncId×Sg):=(105,⟨[(true,Ub),zI],[zI,zI],V3⟩)::c0
theorem fU:TabOK Tryz.prog (Ad pu dA):=R1 fT o9
def m9:List (Nat×Nat×Nat×An):=[(106,3,8,.loop { keep:=[0,1,3,7,11,2,12,6,10],kb:=[0,1],pl:=[.slot 8 false zJ,.box 5 [.lf zJ,.ow true (.sl true T3) false]],ex:=[(.exit 0,[])],pay:=.unit }),(106,9,9,.loop { keep:=[0,1,3,7,11,2,8,12,6,10],kb:=[0,1],pl:=[.box 5 [.lf zJ,.lf (.sl true (.sl true T3))]],ex:=[(.exit 2,[])],pay:=.unit,rel:=[(5,1)] })]
theorem pA (x:AP [(true,T4),zI,(false,(.sl true T3))]):OE Tryz.prog (Ad pu dA) (Qq m9) 3000 60 106 [(true,T4),zI,(false,(.sl true T3))] [(true,T4)] x=Ug x:=by kernel_rfl
def dB:List (FuncId×Sg):=(106,⟨[(true,T4),zI,(false,(.sl true T3))],[(true,T4)],Ug⟩)::dA
theorem fV:TabOK Tryz.prog (Ad pu dB):=R1 fU pA
theorem o8 (x:AP [(true,T4),zI]):PT Tryz.prog (Ad pu dB) (Qq []) 3000 60 104 [(true,T4),zI] true T3 x=Vd x:=by kernel_rfl
def dC:List (FuncId×Sg):=(4194408,⟨[(true,T4),zI],[(false,(.sl true T3))],Vd⟩)::dB
theorem fW:TabOK Tryz.prog (Ad pu dC):=SF (f:=104) fV o8
theorem pn (x:AP [(true,T4),zI]):OE Tryz.prog (Ad pu dC) (Qq []) 3000 60 149 [(true,T4),zI] [(true,Xw),zI] x=UG x:=by kernel_rfl
def dD:List (FuncId×Sg):=(149,⟨[(true,T4),zI],[(true,Xw),zI],UG⟩)::dC
theorem fX:TabOK Tryz.prog (Ad pu dD):=R1 fW pn
end Go.Proofs.YtfilfloanndddaaGreat.Pt
