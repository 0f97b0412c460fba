/- The evaluator comes to each of the plain functions. No condition. -/
import Derived.Test.YtfilfloanndddaaGreatPl3
import Derived.Test.YtfilfloanndddaaGreatProg
set_option linter.all false
namespace Go.Proofs.YtfilfloanndddaaGreat.Pt
open Go Go.Proofs.YtfilfloanndddaaGreat.Sv Go.Proofs.YtfilfloanndddaaGreat.Pl
set_option maxRecDepth 1000000
set_option linter.unusedVariables false
instance glN:Pi.Gl:=⟨λ_=>none,λ_=>none⟩
def pu (g:Nat):Bool:=[2,3,4,5,6,7,8,9,10,11,12,13,14,15,16,17,18,19,20,21,22,23,24,25,26,27,28,29,30,31,32,33,34,35,36,37,38,39,40,41,42,43,44,47,48,49,50,51,53,55,56,57,58,59,60,61,62,63,64,65,66,67,68,69,70,71,73,74,75,76,77,78,79,80,81,87,89,90,91,92,93,94,95,96,97,98,102,103,105,106,108,109,110,111,112,113,114,115,116,117,118,119,120,121,122,123,124,126,127,128,129,130,131,134,135,136,137,138,139,140,141,142,143,144,145,146,147,149,150,151,152,153,154,155,156,157,158,159,160,161,162,163,164,165,166,169,170,171,174,176,177,179,180,182,183,184,185,186,187,188,191,192,193,194,195,196,197,200,201,202,203,204,205,206,208,209,210,211,219,220,221,222,223,224,225,226,228,229,230,231,232,233,234,235,238,256,257,258].any (Nat.beq g)||Nat.ble 1048576 g
@[reducible] def zJ:Ty:=.int .i64
@[reducible] def zI:Bool×Ty:=(false,zJ)
@[reducible] def T0:Ty:=.pair .bool zJ
@[reducible] def T1:Ty:=.pair .str T0
@[reducible] def T2:Ty:=.pair .str T1
@[reducible] def T3:Ty:=.pair zJ (.sl true T2)
@[reducible] def T4:Ty:=.pair zJ (.sl true (.sl true T3))
@[reducible] def T5:Ty:=.pair .str .bool
@[reducible] def T6:Ty:=.pair (.sl false zJ) zJ
@[reducible] def T7:Ty:=.pair (.sl true T5) T6
@[reducible] def T8:Ty:=.pair (.sl false zJ) T7
@[reducible] def T9:Ty:=.pair (.sl false (.sl true T2)) T8
@[reducible] def Zh:Ty:=.pair .bool T5
@[reducible] def sF:Ty:=.pair (.sl true T2) zJ
@[reducible] def sG:Ty:=.pair Zh sF
@[reducible] def Xg:Ty:=.pair T9 sG
@[reducible] def Yn:Ty:=.pair zJ Xg
@[reducible] def sH:Ty:=.pair (.sl true Yn) zJ
@[reducible] def Vt:Ty:=.pair T4 sH
@[reducible] def om:Ty:=.pair (.sl true T5) .unit
@[reducible] def sI:Ty:=.pair Yn zJ
@[reducible] def di:Ty:=.pair Vt sI
@[reducible] def oq:Ty:=.pair zJ .bool
@[reducible] def sJ:Ty:=.pair zJ zJ
@[reducible] def sK:Ty:=.pair zJ sJ
@[reducible] def sL:Ty:=.pair zJ sK
@[reducible] def sN:Ty:=.pair zJ sL
@[reducible] def sO:Ty:=.pair zJ sN
@[reducible] def sQ:Ty:=.pair zJ sO
@[reducible] def sR:Ty:=.pair zJ sQ
@[reducible] def sS:Ty:=.pair zJ sR
@[reducible] def sT:Ty:=.pair zJ sS
@[reducible] def sU:Ty:=.pair zJ sT
@[reducible] def sV:Ty:=.pair zJ sU
@[reducible] def sW:Ty:=.pair zJ sV
@[reducible] def sX:Ty:=.pair zJ sW
@[reducible] def ry:Ty:=.pair zJ sX
def nA:List (FuncId×Sg):=[]
theorem mR:TabOK Tryz.prog (Ad pu nA):=SG _ _
def ot:List (Nat×Nat×Nat×An):=[(12,3,4,.loop { keep:=[0,1],kb:=[0],pl:=[.slot 3 false zJ,.slot 2 false .bool,.slot 4 false zJ],ex:=[(.exit 0,[]),(.ret,[])],pay:=.unit }),(12,6,15,.loop { keep:=[0,1,15,19,17,13,21,4,16,12,20,18,14],kb:=[0],pl:=[.slot 3 false zJ,.slot 5 false zJ,.slot 2 false .bool],ex:=[(.exit 2,[]),(.ret,[])],pay:=.unit }),(12,11,47,.loop { keep:=[0,1,3,15,31,47,19,35,51,27,43,5,17,33,49,25,41,13,21,37,53,29,45,4,16,32,48,24,40,12,20,36,52,28,44,6,18,34,50,26,42,14,54,30,46],kb:=[0],pl:=[.slot 7 false zJ,.slot 2 false .bool],ex:=[(.ret,[]),(.exit 4,[])],pay:=.unit }),(12,18,5,.loop { keep:=[0,1,3,4],kb:=[0],pl:=[.slot 2 false .bool,.slot 8 false zJ],ex:=[(.ret,[]),(.exit 6,[])],pay:=.unit }),(12,25,55,.loop { keep:=[0,1,3,127,95,111,135,103,119,131,115,107,91,123,9,129,97,113,137,105,121,133,101,117,109,93,125,2,4,8,128,96,112,136,104,120,132,116,108,92,124,130,98,114,106,90,122,134,102,118,110,94,126],kb:=[0,20],pl:=[.slot 11 false zJ,.slot 10 false zJ],ex:=[(.exit 8,[])],pay:=.unit })]
theorem sY (x:AP [(true,Vt)]):OE Tryz.prog (Ad pu nA) (Qq ot) 3000 60 12 [(true,Vt)] [(false,.bool)] x=Wc x:=by kernel_rfl
def nB:List (FuncId×Sg):=(12,⟨[(true,Vt)],[(false,.bool)],Wc⟩)::nA
theorem mS:TabOK Tryz.prog (Ad pu nB):=R1 mR sY
def nS:List (Nat×Nat×Nat×An):=[(109,2,2,.loop { keep:=[1,4],kb:=[],pl:=[.slot 0 false zJ,.slot 5 false zJ],ex:=[(.exit 0,[])],pay:=.unit })]
theorem pK (x:AP [zI,zI]):OE Tryz.prog (Ad pu nB) (Qq nS) 3000 60 109 [zI,zI] [zI] x=VF x:=by kernel_rfl
def nC:List (FuncId×Sg):=(109,⟨[zI,zI],[zI],VF⟩)::nB
theorem mT:TabOK Tryz.prog (Ad pu nC):=R1 mS pK
theorem pW (x:AP [(true,T2)]):OE Tryz.prog (Ad pu nC) (Qq []) 3000 60 122 [(true,T2)] [zI] x=VO x:=by kernel_rfl
def nD:List (FuncId×Sg):=(122,⟨[(true,T2)],[zI],VO⟩)::nC
theorem mU:TabOK Tryz.prog (Ad pu nD):=R1 mT pW
def oR:List (Nat×Nat×Nat×An):=[(220,2,2,.loop { keep:=[0,1,4],kb:=[],pl:=[.slot 5 false zJ],ex:=[(.exit 0,[])],pay:=.unit })]
theorem rB (x:AP [(false,.str),(false,.str)]):OE Tryz.prog (Ad pu nD) (Qq oR) 3000 60 220 [(false,.str),(false,.str)] [zI] x=V3 x:=by kernel_rfl
def nE:List (FuncId×Sg):=(220,⟨[(false,.str),(false,.str)],[zI],V3⟩)::nD
theorem mV:TabOK Tryz.prog (Ad pu nE):=R1 mU rB
theorem qn (x:AP [(false,.str),(false,.str)]):OE Tryz.prog (Ad pu nE) (Qq []) 3000 60 201 [(false,.str),(false,.str)] [zI] x=Vp x:=by kernel_rfl
def nF:List (FuncId×Sg):=(201,⟨[(false,.str),(false,.str)],[zI],Vp⟩)::nE
theorem mW:TabOK Tryz.prog (Ad pu nF):=R1 mV qn
def oE:List (Nat×Nat×Nat×An):=[(185,4,6,.loop { keep:=[0,7,8,6],kb:=[],pl:=[.slot 3 false zJ,.slot 2 false zJ,.slot 4 false zJ],ex:=[(.ret,[]),(.exit 0,[])],pay:=.unit })]
theorem qY (x:AP [(false,(.sl true T2))]):OE Tryz.prog (Ad pu nF) (Qq oE) 3000 60 185 [(false,(.sl true T2))] [zI,zI] x=Us x:=by kernel_rfl
def nG:List (FuncId×Sg):=(185,⟨[(false,(.sl true T2))],[zI,zI],Us⟩)::nF
theorem mX:TabOK Tryz.prog (Ad pu nG):=R1 mW qY
theorem p9 (x:AP [(true,T3)]):OE Tryz.prog (Ad pu nG) (Qq []) 3000 60 150 [(true,T3)] [zI,zI] x=WQ x:=by kernel_rfl
def nH:List (FuncId×Sg):=(150,⟨[(true,T3)],[zI,zI],WQ⟩)::nG
theorem mY:TabOK Tryz.prog (Ad pu nH):=R1 mX p9
def nR:List (Nat×Nat×Nat×An):=[(108,9,21,.loop { keep:=[0,1,3,7,15,23,11,19,25,13,21,2,8,16,24,12,20,10,18,26,14,22],kb:=[0],pl:=[.slot 9 false zJ,.slot 6 false zJ],ex:=[(.ret,[]),(.exit 0,[])],pay:=.unit })]
theorem pJ (x:AP [(true,T3),zI,(false,(.sl false zJ))]):OE Tryz.prog (Ad pu nH) (Qq nR) 3000 60 108 [(true,T3),zI,(false,(.sl false zJ))] [zI] x=Vg x:=by kernel_rfl
def nI:List (FuncId×Sg):=(108,⟨[(true,T3),zI,(false,(.sl false zJ))],[zI],Vg⟩)::nH
theorem mZ:TabOK Tryz.prog (Ad pu nI):=R1 mY pJ
def pA:List (Nat×Nat×Nat×An):=[(64,7,18,.loop { keep:=[0,1,15,11,19,17,13,21,16,12,20,10,18,14],kb:=[0],pl:=[.slot 3 false zJ,.srow 5 false zJ false,.slot 2 false zJ,.slot 4 false zJ,.slot 6 false zJ],ex:=[(.ret,[]),(.exit 0,[])],pay:=.unit }),(64,13,35,.loop { keep:=[0,1,7,15,31,23,11,19,35,17,33,25,13,21,37,29,16,32,24,12,20,36,6,10,18,34,26,14,22,30],kb:=[0],pl:=[.slot 3 false zJ,.srow 5 false zJ false,.slot 2 false zJ,.slot 4 false zJ,.slot 8 false zJ],ex:=[(.ret,[]),(.exit 2,[])],pay:=.unit })]
theorem tC (x:AP [(true,T4)]):OE Tryz.prog (Ad pu nI) (Qq pA) 3000 60 64 [(true,T4)] [zI,zI,zI] x=Ug x:=by kernel_rfl
def nJ:List (FuncId×Sg):=(64,⟨[(true,T4)],[zI,zI,zI],Ug⟩)::nI
theorem ma:TabOK Tryz.prog (Ad pu nJ):=R1 mZ tC
def o9:List (Nat×Nat×Nat×An):=[(62,6,16,.loop { keep:=[0,1,3,15,11,5,17,13,2,4,16,12,6,10,14],kb:=[0],pl:=[.srow 7 true T3 false,.slot 8 false zJ],ex:=[(.exit 0,[])],pay:=.unit }),(62,9,31,.loop { keep:=[0,1,3,15,31,23,11,19,27,5,17,33,13,21,29,2,4,8,16,32,12,20,28,6,10,26,14,22,30],kb:=[0],pl:=[.srow 7 true T3 false,.slot 9 false zJ],ex:=[(.exit 2,[])],pay:=.unit })]
theorem tB (x:AP [(true,T4)]):OE Tryz.prog (Ad pu nJ) (Qq o9) 3000 60 62 [(true,T4)] [(false,(.sl true T3)),zI] x=V6 x:=by kernel_rfl
def gv:List (FuncId×Sg):=(62,⟨[(true,T4)],[(false,(.sl true T3)),zI],V6⟩)::nJ
theorem gw:TabOK Tryz.prog (Ad pu gv):=R1 ma tB
def pB:List (Nat×Nat×Nat×An):=[(65,4,11,.loop { keep:=[0,1,3,7,11,9,2,4,8,10],kb:=[0],pl:=[.slot 5 false zJ,.slot 6 false zJ],ex:=[(.exit 0,[])],pay:=.unit })]
theorem tD (x:AP [(true,T4)]):OE Tryz.prog (Ad pu gv) (Qq pB) 3000 60 65 [(true,T4)] [zI] x=Ub x:=by kernel_rfl
def gx:List (FuncId×Sg):=(65,⟨[(true,T4)],[zI],Ub⟩)::gv
theorem gy:TabOK Tryz.prog (Ad pu gx):=R1 gw tD
def pC:List (Nat×Nat×Nat×An):=[(66,3,4,.loop { keep:=[0,1,2],kb:=[0],pl:=[.srow 3 false zJ false,.slot 4 false zJ],ex:=[(.exit 0,[])],pay:=.unit })]
theorem tF (x:AP [(true,T4)]):OE Tryz.prog (Ad pu gx) (Qq pC) 3000 60 66 [(true,T4)] [(false,(.sl false zJ))] x=UE x:=by kernel_rfl
def gz:List (FuncId×Sg):=(66,⟨[(true,T4)],[(false,(.sl false zJ))],UE⟩)::gx
theorem g9:TabOK Tryz.prog (Ad pu gz):=R1 gy tF
theorem qA (x:AP [(true,T4),zI]):OE Tryz.prog (Ad pu gz) (Qq []) 3000 60 151 [(true,T4),zI] [zI] x=XP x:=by kernel_rfl
def hC:List (FuncId×Sg):=(151,⟨[(true,T4),zI],[zI],XP⟩)::gz
theorem iA:TabOK Tryz.prog (Ad pu hC):=R1 g9 qA
end Go.Proofs.YtfilfloanndddaaGreat.Pt
