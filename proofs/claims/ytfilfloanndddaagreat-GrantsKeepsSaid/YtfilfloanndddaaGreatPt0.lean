/- The evaluator comes to each of the plain functions. No condition. -/
import Derived.Test.YtfilfloanndddaaGreatPl3
import Derived.Test.YtfilfloanndddaaGreatProg
set_option linter.all false
namespace Go.Proofs.YtfilfloanndddaaGreat.Pt
open Go Go.Proofs.YtfilfloanndddaaGreat.Sv Go.Proofs.YtfilfloanndddaaGreat.Pl
set_option maxRecDepth 1000000
set_option linter.unusedVariables false
instance glN:Pi.Gl:=⟨λ_=>none,λ_=>none⟩
def pu (g:Nat):Bool:=[2,3,4,5,6,7,8,9,10,11,12,13,14,15,16,17,18,19,20,21,22,23,24,25,26,27,28,29,30,31,32,33,34,35,36,37,38,39,40,41,42,43,44,47,48,49,50,51,53,55,56,57,58,59,60,61,62,63,64,65,66,67,68,69,70,71,73,74,75,76,77,78,79,80,81,87,89,90,91,92,93,94,95,96,97,98,102,103,105,106,108,109,110,111,112,113,114,115,116,117,118,119,120,121,122,123,124,126,127,128,129,130,131,134,135,136,137,138,139,140,141,142,143,144,145,146,147,149,150,151,152,153,154,155,156,157,158,159,160,161,162,163,164,165,166,169,170,171,174,176,177,179,180,182,183,184,185,186,187,188,191,192,193,194,195,196,197,200,201,202,203,204,205,206,208,209,210,211,219,220,221,222,223,224,225,226,228,229,230,231,232,233,234,235,238,256,257,258].any (Nat.beq g)||Nat.ble 1048576 g
@[reducible] def zJ:Ty:=.int .i64
@[reducible] def zI:Bool×Ty:=(false,zJ)
@[reducible] def T0:Ty:=.pair .bool zJ
@[reducible] def T1:Ty:=.pair .str T0
@[reducible] def T2:Ty:=.pair .str T1
@[reducible] def T3:Ty:=.pair zJ (.sl true T2)
@[reducible] def T4:Ty:=.pair zJ (.sl true (.sl true T3))
@[reducible] def T5:Ty:=.pair .str .bool
@[reducible] def T6:Ty:=.pair (.sl false zJ) zJ
@[reducible] def T7:Ty:=.pair (.sl true T5) T6
@[reducible] def T8:Ty:=.pair (.sl false zJ) T7
@[reducible] def T9:Ty:=.pair (.sl false (.sl true T2)) T8
@[reducible] def Zb:Ty:=.pair .bool T5
@[reducible] def ru:Ty:=.pair (.sl true T2) zJ
@[reducible] def rx:Ty:=.pair Zb ru
@[reducible] def Xc:Ty:=.pair T9 rx
@[reducible] def YQ:Ty:=.pair zJ Xc
@[reducible] def ry:Ty:=.pair (.sl true YQ) zJ
@[reducible] def WG:Ty:=.pair T4 ry
@[reducible] def oa:Ty:=.pair (.sl true T5) .unit
@[reducible] def sB:Ty:=.pair YQ zJ
@[reducible] def dU:Ty:=.pair WG sB
@[reducible] def oc:Ty:=.pair zJ .bool
@[reducible] def sC:Ty:=.pair zJ zJ
@[reducible] def sE:Ty:=.pair zJ sC
@[reducible] def sF:Ty:=.pair zJ sE
@[reducible] def sG:Ty:=.pair zJ sF
@[reducible] def sH:Ty:=.pair zJ sG
@[reducible] def sI:Ty:=.pair zJ sH
@[reducible] def sJ:Ty:=.pair zJ sI
@[reducible] def sK:Ty:=.pair zJ sJ
@[reducible] def sL:Ty:=.pair zJ sK
@[reducible] def sN:Ty:=.pair zJ sL
@[reducible] def sO:Ty:=.pair zJ sN
@[reducible] def sQ:Ty:=.pair zJ sO
@[reducible] def sR:Ty:=.pair zJ sQ
@[reducible] def mY:Ty:=.pair zJ sR
def mr:List (FuncId×Sg):=[]
theorem mD:TabOK Tryz.prog (Ad pu mr):=SG _ _
def od:List (Nat×Nat×Nat×An):=[(12,3,4,.loop { keep:=[0,1],kb:=[0],pl:=[.slot 3 false zJ,.slot 2 false .bool,.slot 4 false zJ],ex:=[(.exit 0,[]),(.ret,[])],pay:=.unit }),(12,6,15,.loop { keep:=[0,1,15,19,17,13,21,4,16,12,20,18,14],kb:=[0],pl:=[.slot 3 false zJ,.slot 5 false zJ,.slot 2 false .bool],ex:=[(.exit 2,[]),(.ret,[])],pay:=.unit }),(12,11,47,.loop { keep:=[0,1,3,15,31,47,19,35,51,27,43,5,17,33,49,25,41,13,21,37,53,29,45,4,16,32,48,24,40,12,20,36,52,28,44,6,18,34,50,26,42,14,54,30,46],kb:=[0],pl:=[.slot 7 false zJ,.slot 2 false .bool],ex:=[(.ret,[]),(.exit 4,[])],pay:=.unit }),(12,18,5,.loop { keep:=[0,1,3,4],kb:=[0],pl:=[.slot 2 false .bool,.slot 8 false zJ],ex:=[(.ret,[]),(.exit 6,[])],pay:=.unit }),(12,25,55,.loop { keep:=[0,1,3,127,95,111,135,103,119,131,115,107,91,123,9,129,97,113,137,105,121,133,101,117,109,93,125,2,4,8,128,96,112,136,104,120,132,116,108,92,124,130,98,114,106,90,122,134,102,118,110,94,126],kb:=[0,20],pl:=[.slot 11 false zJ,.slot 10 false zJ],ex:=[(.exit 8,[])],pay:=.unit })]
theorem sT (x:AP [(true,WG)]):OE Tryz.prog (Ad pu mr) (Qq od) 3000 60 12 [(true,WG)] [(false,.bool)] x=Wa x:=by kernel_rfl
def mu:List (FuncId×Sg):=(12,⟨[(true,WG)],[(false,.bool)],Wa⟩)::mr
theorem mE:TabOK Tryz.prog (Ad pu mu):=R1 mD sT
def nG:List (Nat×Nat×Nat×An):=[(109,2,2,.loop { keep:=[1,4],kb:=[],pl:=[.slot 0 false zJ,.slot 5 false zJ],ex:=[(.exit 0,[])],pay:=.unit })]
theorem pF (x:AP [zI,zI]):OE Tryz.prog (Ad pu mu) (Qq nG) 3000 60 109 [zI,zI] [zI] x=VF x:=by kernel_rfl
def mv:List (FuncId×Sg):=(109,⟨[zI,zI],[zI],VF⟩)::mu
theorem mF:TabOK Tryz.prog (Ad pu mv):=R1 mE pF
theorem pQ (x:AP [(true,T2)]):OE Tryz.prog (Ad pu mv) (Qq []) 3000 60 122 [(true,T2)] [zI] x=VP x:=by kernel_rfl
def mw:List (FuncId×Sg):=(122,⟨[(true,T2)],[zI],VP⟩)::mv
theorem mG:TabOK Tryz.prog (Ad pu mw):=R1 mF pQ
def oF:List (Nat×Nat×Nat×An):=[(220,2,2,.loop { keep:=[0,1,4],kb:=[],pl:=[.slot 5 false zJ],ex:=[(.exit 0,[])],pay:=.unit })]
theorem qw (x:AP [(false,.str),(false,.str)]):OE Tryz.prog (Ad pu mw) (Qq oF) 3000 60 220 [(false,.str),(false,.str)] [zI] x=Vy x:=by kernel_rfl
def my:List (FuncId×Sg):=(220,⟨[(false,.str),(false,.str)],[zI],Vy⟩)::mw
theorem mH:TabOK Tryz.prog (Ad pu my):=R1 mG qw
theorem qi (x:AP [(false,.str),(false,.str)]):OE Tryz.prog (Ad pu my) (Qq []) 3000 60 201 [(false,.str),(false,.str)] [zI] x=Vn x:=by kernel_rfl
def mz:List (FuncId×Sg):=(201,⟨[(false,.str),(false,.str)],[zI],Vn⟩)::my
theorem mI:TabOK Tryz.prog (Ad pu mz):=R1 mH qi
def np:List (Nat×Nat×Nat×An):=[(185,4,6,.loop { keep:=[0,7,8,6],kb:=[],pl:=[.slot 3 false zJ,.slot 2 false zJ,.slot 4 false zJ],ex:=[(.ret,[]),(.exit 0,[])],pay:=.unit })]
theorem qT (x:AP [(false,(.sl true T2))]):OE Tryz.prog (Ad pu mz) (Qq np) 3000 60 185 [(false,(.sl true T2))] [zI,zI] x=Ur x:=by kernel_rfl
def m6:List (FuncId×Sg):=(185,⟨[(false,(.sl true T2))],[zI,zI],Ur⟩)::mz
theorem mJ:TabOK Tryz.prog (Ad pu m6):=R1 mI qT
theorem pw (x:AP [(true,T3)]):OE Tryz.prog (Ad pu m6) (Qq []) 3000 60 150 [(true,T3)] [zI,zI] x=WP x:=by kernel_rfl
def m7:List (FuncId×Sg):=(150,⟨[(true,T3)],[zI,zI],WP⟩)::m6
theorem mK:TabOK Tryz.prog (Ad pu m7):=R1 mJ pw
def nF:List (Nat×Nat×Nat×An):=[(108,9,21,.loop { keep:=[0,1,3,7,15,23,11,19,25,13,21,2,8,16,24,12,20,10,18,26,14,22],kb:=[0],pl:=[.slot 9 false zJ,.slot 6 false zJ],ex:=[(.ret,[]),(.exit 0,[])],pay:=.unit })]
theorem pE (x:AP [(true,T3),zI,(false,(.sl false zJ))]):OE Tryz.prog (Ad pu m7) (Qq nF) 3000 60 108 [(true,T3),zI,(false,(.sl false zJ))] [zI] x=Vf x:=by kernel_rfl
def m8:List (FuncId×Sg):=(108,⟨[(true,T3),zI,(false,(.sl false zJ))],[zI],Vf⟩)::m7
theorem mL:TabOK Tryz.prog (Ad pu m8):=R1 mK pE
def o6:List (Nat×Nat×Nat×An):=[(64,7,18,.loop { keep:=[0,1,15,11,19,17,13,21,16,12,20,10,18,14],kb:=[0],pl:=[.slot 3 false zJ,.srow 5 false zJ false,.slot 2 false zJ,.slot 4 false zJ,.slot 6 false zJ],ex:=[(.ret,[]),(.exit 0,[])],pay:=.unit }),(64,13,35,.loop { keep:=[0,1,7,15,31,23,11,19,35,17,33,25,13,21,37,29,16,32,24,12,20,36,6,10,18,34,26,14,22,30],kb:=[0],pl:=[.slot 3 false zJ,.srow 5 false zJ false,.slot 2 false zJ,.slot 4 false zJ,.slot 8 false zJ],ex:=[(.ret,[]),(.exit 2,[])],pay:=.unit })]
theorem sx (x:AP [(true,T4)]):OE Tryz.prog (Ad pu m8) (Qq o6) 3000 60 64 [(true,T4)] [zI,zI,zI] x=Uh x:=by kernel_rfl
def m9:List (FuncId×Sg):=(64,⟨[(true,T4)],[zI,zI,zI],Uh⟩)::m8
theorem mM:TabOK Tryz.prog (Ad pu m9):=R1 mL sx
def oz:List (Nat×Nat×Nat×An):=[(62,6,16,.loop { keep:=[0,1,3,15,11,5,17,13,2,4,16,12,6,10,14],kb:=[0],pl:=[.srow 7 true T3 false,.slot 8 false zJ],ex:=[(.exit 0,[])],pay:=.unit }),(62,9,31,.loop { keep:=[0,1,3,15,31,23,11,19,27,5,17,33,13,21,29,2,4,8,16,32,12,20,28,6,10,26,14,22,30],kb:=[0],pl:=[.srow 7 true T3 false,.slot 9 false zJ],ex:=[(.exit 2,[])],pay:=.unit })]
theorem su (x:AP [(true,T4)]):OE Tryz.prog (Ad pu m9) (Qq oz) 3000 60 62 [(true,T4)] [(false,(.sl true T3)),zI] x=VW x:=by kernel_rfl
def gZ:List (FuncId×Sg):=(62,⟨[(true,T4)],[(false,(.sl true T3)),zI],VW⟩)::m9
theorem ga:TabOK Tryz.prog (Ad pu gZ):=R1 mM su
def o7:List (Nat×Nat×Nat×An):=[(65,4,11,.loop { keep:=[0,1,3,7,11,9,2,4,8,10],kb:=[0],pl:=[.slot 5 false zJ,.slot 6 false zJ],ex:=[(.exit 0,[])],pay:=.unit })]
theorem sy (x:AP [(true,T4)]):OE Tryz.prog (Ad pu gZ) (Qq o7) 3000 60 65 [(true,T4)] [zI] x=Uc x:=by kernel_rfl
def gb:List (FuncId×Sg):=(65,⟨[(true,T4)],[zI],Uc⟩)::gZ
theorem gf:TabOK Tryz.prog (Ad pu gb):=R1 ga sy
def o8:List (Nat×Nat×Nat×An):=[(66,3,4,.loop { keep:=[0,1,2],kb:=[0],pl:=[.srow 3 false zJ false,.slot 4 false zJ],ex:=[(.exit 0,[])],pay:=.unit })]
theorem tA (x:AP [(true,T4)]):OE Tryz.prog (Ad pu gb) (Qq o8) 3000 60 66 [(true,T4)] [(false,(.sl false zJ))] x=UE x:=by kernel_rfl
def gh:List (FuncId×Sg):=(66,⟨[(true,T4)],[(false,(.sl false zJ))],UE⟩)::gb
theorem gi:TabOK Tryz.prog (Ad pu gh):=R1 gf tA
theorem px (x:AP [(true,T4),zI]):OE Tryz.prog (Ad pu gh) (Qq []) 3000 60 151 [(true,T4),zI] [zI] x=XP x:=by kernel_rfl
def gj:List (FuncId×Sg):=(151,⟨[(true,T4),zI],[zI],XP⟩)::gh
theorem gn:TabOK Tryz.prog (Ad pu gj):=R1 gi px
end Go.Proofs.YtfilfloanndddaaGreat.Pt
