/- The evaluator comes to each of the plain functions. No condition. -/
import Derived.Test.YtfilfloanndddaaGreatPl3
import Derived.Test.YtfilfloanndddaaGreatProg
set_option linter.all false
namespace Go.Proofs.YtfilfloanndddaaGreat.Pt
open Go Go.Proofs.YtfilfloanndddaaGreat.Sv Go.Proofs.YtfilfloanndddaaGreat.Pl
set_option maxRecDepth 1000000
set_option linter.unusedVariables false
instance glN:Pi.Gl:=⟨λ_=>none,λ_=>none⟩
def pu (g:Nat):Bool:=[2,3,4,5,6,7,8,9,10,11,12,13,14,15,16,17,18,19,20,21,22,23,24,25,26,27,28,29,30,31,32,33,34,35,36,37,38,39,40,41,42,43,44,47,48,49,50,51,53,55,56,57,58,59,60,61,62,63,64,65,66,67,68,69,70,71,73,74,75,76,77,78,79,80,81,87,89,90,91,92,93,94,95,96,97,98,102,103,105,106,108,109,110,111,112,113,114,115,116,117,118,119,120,121,122,123,124,126,127,128,129,130,131,134,135,136,137,138,139,140,141,142,143,144,145,146,147,149,150,151,152,153,154,155,156,157,158,159,160,161,162,163,164,165,166,169,170,171,174,176,177,179,180,182,183,184,185,186,187,188,191,192,193,194,195,196,197,200,201,202,203,204,205,206,208,209,210,211,219,220,221,222,223,224,225,226,228,229,230,231,232,233,234,235,238,256,257,258].any (Nat.beq g)||Nat.ble 1048576 g
@[reducible] def zJ:Ty:=.int .i64
@[reducible] def zI:Bool×Ty:=(false,zJ)
@[reducible] def T0:Ty:=.pair .bool zJ
@[reducible] def T1:Ty:=.pair .str T0
@[reducible] def T2:Ty:=.pair .str T1
@[reducible] def T3:Ty:=.pair zJ (.sl true T2)
@[reducible] def T4:Ty:=.pair zJ (.sl true (.sl true T3))
@[reducible] def T5:Ty:=.pair .str .bool
@[reducible] def T6:Ty:=.pair (.sl false zJ) zJ
@[reducible] def T7:Ty:=.pair (.sl true T5) T6
@[reducible] def T8:Ty:=.pair (.sl false zJ) T7
@[reducible] def T9:Ty:=.pair (.sl false (.sl true T2)) T8
@[reducible] def Qk:Ty:=.pair .bool T5
@[reducible] def tq:Ty:=.pair (.sl true T2) zJ
@[reducible] def tu:Ty:=.pair Qk tq
@[reducible] def I6:Ty:=.pair T9 tu
@[reducible] def Iu:Ty:=.pair zJ I6
@[reducible] def tv:Ty:=.pair (.sl true Iu) zJ
@[reducible] def CG:Ty:=.pair T4 tv
@[reducible] def pw:Ty:=.pair (.sl true T5) .unit
@[reducible] def tx:Ty:=.pair Iu zJ
@[reducible] def Yz:Ty:=.pair CG tx
@[reducible] def px:Ty:=.pair zJ .bool
@[reducible] def tz:Ty:=.pair zJ zJ
@[reducible] def t4:Ty:=.pair zJ tz
@[reducible] def t5:Ty:=.pair zJ t4
@[reducible] def t6:Ty:=.pair zJ t5
@[reducible] def t7:Ty:=.pair zJ t6
@[reducible] def t8:Ty:=.pair zJ t7
@[reducible] def t9:Ty:=.pair zJ t8
@[reducible] def uC:Ty:=.pair zJ t9
@[reducible] def uD:Ty:=.pair zJ uC
@[reducible] def uE:Ty:=.pair zJ uD
@[reducible] def uF:Ty:=.pair zJ uE
@[reducible] def uG:Ty:=.pair zJ uF
@[reducible] def uH:Ty:=.pair zJ uG
@[reducible] def nM:Ty:=.pair zJ uH
def m6:List (FuncId×Sg):=[]
theorem lQ:TabOK Tryz.prog (AC pu m6):=kh _ _
def py:List (Nat×Nat×Nat×An):=[(12,3,4,.loop { keep:=[0,1],kb:=[0],pl:=[.slot 3 false zJ,.slot 2 false .bool,.slot 4 false zJ],ex:=[(.exit 0,[]),(.ret,[])],pay:=.unit }),(12,6,15,.loop { keep:=[0,1,15,19,17,13,21,4,16,12,20,18,14],kb:=[0],pl:=[.slot 3 false zJ,.slot 5 false zJ,.slot 2 false .bool],ex:=[(.exit 2,[]),(.ret,[])],pay:=.unit }),(12,11,47,.loop { keep:=[0,1,3,15,31,47,19,35,51,27,43,5,17,33,49,25,41,13,21,37,53,29,45,4,16,32,48,24,40,12,20,36,52,28,44,6,18,34,50,26,42,14,54,30,46],kb:=[0],pl:=[.slot 7 false zJ,.slot 2 false .bool],ex:=[(.ret,[]),(.exit 4,[])],pay:=.unit }),(12,18,5,.loop { keep:=[0,1,3,4],kb:=[0],pl:=[.slot 2 false .bool,.slot 8 false zJ],ex:=[(.ret,[]),(.exit 6,[])],pay:=.unit }),(12,25,55,.loop { keep:=[0,1,3,127,95,111,135,103,119,131,115,107,91,123,9,129,97,113,137,105,121,133,101,117,109,93,125,2,4,8,128,96,112,136,104,120,132,116,108,92,124,130,98,114,106,90,122,134,102,118,110,94,126],kb:=[0,20],pl:=[.slot 11 false zJ,.slot 10 false zJ],ex:=[(.exit 8,[])],pay:=.unit })]
theorem uI (x:AH [(true,CG)]):Ac Tryz.prog (AC pu m6) (AK py) 3000 60 12 [(true,CG)] [(false,.bool)] x=GP x:=by kernel_rfl
def m7:List (FuncId×Sg):=(12,⟨[(true,CG)],[(false,.bool)],GP⟩)::m6
theorem lR:TabOK Tryz.prog (AC pu m7):=AF lQ uI
def oE:List (Nat×Nat×Nat×An):=[(109,2,2,.loop { keep:=[1,4],kb:=[],pl:=[.slot 0 false zJ,.slot 5 false zJ],ex:=[(.exit 0,[])],pay:=.unit })]
theorem pz (x:AH [zI,zI]):Ac Tryz.prog (AC pu m7) (AK oE) 3000 60 109 [zI,zI] [zI] x=Dk x:=by kernel_rfl
def m8:List (FuncId×Sg):=(109,⟨[zI,zI],[zI],Dk⟩)::m7
theorem lS:TabOK Tryz.prog (AC pu m8):=AF lR pz
theorem p8 (x:AH [(true,T2)]):Ac Tryz.prog (AC pu m8) (AK []) 3000 60 122 [(true,T2)] [zI] x=Du x:=by kernel_rfl
def m9:List (FuncId×Sg):=(122,⟨[(true,T2)],[zI],Du⟩)::m8
theorem lT:TabOK Tryz.prog (AC pu m9):=AF lS p8
def oF:List (Nat×Nat×Nat×An):=[(220,2,2,.loop { keep:=[0,1,4],kb:=[],pl:=[.slot 5 false zJ],ex:=[(.exit 0,[])],pay:=.unit })]
theorem p9 (x:AH [(false,.str),(false,.str)]):Ac Tryz.prog (AC pu m9) (AK oF) 3000 60 220 [(false,.str),(false,.str)] [zI] x=FD x:=by kernel_rfl
def nA:List (FuncId×Sg):=(220,⟨[(false,.str),(false,.str)],[zI],FD⟩)::m9
theorem lU:TabOK Tryz.prog (AC pu nA):=AF lT p9
theorem qA (x:AH [(false,.str),(false,.str)]):Ac Tryz.prog (AC pu nA) (AK []) 3000 60 201 [(false,.str),(false,.str)] [zI] x=Eo x:=by kernel_rfl
def nB:List (FuncId×Sg):=(201,⟨[(false,.str),(false,.str)],[zI],Eo⟩)::nA
theorem lV:TabOK Tryz.prog (AC pu nB):=AF lU qA
def oG:List (Nat×Nat×Nat×An):=[(185,4,6,.loop { keep:=[0,7,8,6],kb:=[],pl:=[.slot 3 false zJ,.slot 2 false zJ,.slot 4 false zJ],ex:=[(.ret,[]),(.exit 0,[])],pay:=.unit })]
theorem qB (x:AH [(false,(.sl true T2))]):Ac Tryz.prog (AC pu nB) (AK oG) 3000 60 185 [(false,(.sl true T2))] [zI,zI] x=C2 x:=by kernel_rfl
def nC:List (FuncId×Sg):=(185,⟨[(false,(.sl true T2))],[zI,zI],C2⟩)::nB
theorem lW:TabOK Tryz.prog (AC pu nC):=AF lV qB
theorem qC (x:AH [(true,T3)]):Ac Tryz.prog (AC pu nC) (AK []) 3000 60 150 [(true,T3)] [zI,zI] x=Fs x:=by kernel_rfl
def nD:List (FuncId×Sg):=(150,⟨[(true,T3)],[zI,zI],Fs⟩)::nC
theorem lX:TabOK Tryz.prog (AC pu nD):=AF lW qC
def oH:List (Nat×Nat×Nat×An):=[(108,9,21,.loop { keep:=[0,1,3,7,15,23,11,19,25,13,21,2,8,16,24,12,20,10,18,26,14,22],kb:=[0],pl:=[.slot 9 false zJ,.slot 6 false zJ],ex:=[(.ret,[]),(.exit 0,[])],pay:=.unit })]
theorem qD (x:AH [(true,T3),zI,(false,(.sl false zJ))]):Ac Tryz.prog (AC pu nD) (AK oH) 3000 60 108 [(true,T3),zI,(false,(.sl false zJ))] [zI] x=EU x:=by kernel_rfl
def nE:List (FuncId×Sg):=(108,⟨[(true,T3),zI,(false,(.sl false zJ))],[zI],EU⟩)::nD
theorem lY:TabOK Tryz.prog (AC pu nE):=AF lX qD
def qE:List (Nat×Nat×Nat×An):=[(64,7,18,.loop { keep:=[0,1,15,11,19,17,13,21,16,12,20,10,18,14],kb:=[0],pl:=[.slot 3 false zJ,.srow 5 false zJ false,.slot 2 false zJ,.slot 4 false zJ,.slot 6 false zJ],ex:=[(.ret,[]),(.exit 0,[])],pay:=.unit }),(64,13,35,.loop { keep:=[0,1,7,15,31,23,11,19,35,17,33,25,13,21,37,29,16,32,24,12,20,36,6,10,18,34,26,14,22,30],kb:=[0],pl:=[.slot 3 false zJ,.srow 5 false zJ false,.slot 2 false zJ,.slot 4 false zJ,.slot 8 false zJ],ex:=[(.ret,[]),(.exit 2,[])],pay:=.unit })]
theorem uJ (x:AH [(true,T4)]):Ac Tryz.prog (AC pu nE) (AK qE) 3000 60 64 [(true,T4)] [zI,zI,zI] x=Ci x:=by kernel_rfl
def nF:List (FuncId×Sg):=(64,⟨[(true,T4)],[zI,zI,zI],Ci⟩)::nE
theorem lZ:TabOK Tryz.prog (AC pu nF):=AF lY uJ
def qF:List (Nat×Nat×Nat×An):=[(62,6,16,.loop { keep:=[0,1,3,15,11,5,17,13,2,4,16,12,6,10,14],kb:=[0],pl:=[.srow 7 true T3 false,.slot 8 false zJ],ex:=[(.exit 0,[])],pay:=.unit }),(62,9,31,.loop { keep:=[0,1,3,15,31,23,11,19,27,5,17,33,13,21,29,2,4,8,16,32,12,20,28,6,10,26,14,22,30],kb:=[0],pl:=[.srow 7 true T3 false,.slot 9 false zJ],ex:=[(.exit 2,[])],pay:=.unit })]
theorem uK (x:AH [(true,T4)]):Ac Tryz.prog (AC pu nF) (AK qF) 3000 60 62 [(true,T4)] [(false,(.sl true T3)),zI] x=FE x:=by kernel_rfl
def eX:List (FuncId×Sg):=(62,⟨[(true,T4)],[(false,(.sl true T3)),zI],FE⟩)::nF
theorem eY:TabOK Tryz.prog (AC pu eX):=AF lZ uK
def qG:List (Nat×Nat×Nat×An):=[(65,4,11,.loop { keep:=[0,1,3,7,11,9,2,4,8,10],kb:=[0],pl:=[.slot 5 false zJ,.slot 6 false zJ],ex:=[(.exit 0,[])],pay:=.unit })]
theorem uL (x:AH [(true,T4)]):Ac Tryz.prog (AC pu eX) (AK qG) 3000 60 65 [(true,T4)] [zI] x=Cd x:=by kernel_rfl
def eZ:List (FuncId×Sg):=(65,⟨[(true,T4)],[zI],Cd⟩)::eX
theorem ec:TabOK Tryz.prog (AC pu eZ):=AF eY uL
def qH:List (Nat×Nat×Nat×An):=[(66,3,4,.loop { keep:=[0,1,2],kb:=[0],pl:=[.srow 3 false zJ false,.slot 4 false zJ],ex:=[(.exit 0,[])],pay:=.unit })]
theorem uM (x:AH [(true,T4)]):Ac Tryz.prog (AC pu eZ) (AK qH) 3000 60 66 [(true,T4)] [(false,(.sl false zJ))] x=Bq x:=by kernel_rfl
def ef:List (FuncId×Sg):=(66,⟨[(true,T4)],[(false,(.sl false zJ))],Bq⟩)::eZ
theorem eh:TabOK Tryz.prog (AC pu ef):=AF ec uM
theorem qI (x:AH [(true,T4),zI]):Ac Tryz.prog (AC pu ef) (AK []) 3000 60 151 [(true,T4),zI] [zI] x=IQ x:=by kernel_rfl
def ei:List (FuncId×Sg):=(151,⟨[(true,T4),zI],[zI],IQ⟩)::ef
theorem ej:TabOK Tryz.prog (AC pu ei):=AF eh qI
end Go.Proofs.YtfilfloanndddaaGreat.Pt
