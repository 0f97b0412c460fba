/- The evaluator comes to each of the plain functions. No condition. -/
import Derived.Test.YtfilfloanndddaaGreatPl3
import Derived.Test.YtfilfloanndddaaGreatProg
set_option linter.all false
namespace Go.Proofs.YtfilfloanndddaaGreat.Pt
open Go Go.Proofs.YtfilfloanndddaaGreat.Sv Go.Proofs.YtfilfloanndddaaGreat.Pl
set_option maxRecDepth 1000000
set_option linter.unusedVariables false
instance glN:Pi.Gl:=⟨λ_=>none,λ_=>none⟩
def pu (g:Nat):Bool:=[2,3,4,5,6,7,8,9,10,11,12,13,14,15,16,17,18,19,20,21,22,23,24,25,26,27,28,29,30,31,32,33,34,35,36,37,38,39,40,41,42,43,44,47,48,49,50,51,53,55,56,57,58,59,60,61,62,63,64,65,66,67,68,69,70,71,73,74,75,76,77,78,79,80,81,87,89,90,91,92,93,94,95,96,97,98,102,103,105,106,108,109,110,111,112,113,114,115,116,117,118,119,120,121,122,123,124,126,127,128,129,130,131,134,135,136,137,138,139,140,141,142,143,144,145,146,147,149,150,151,152,153,154,155,156,157,158,159,160,161,162,163,164,165,166,169,170,171,174,176,177,179,180,182,183,184,185,186,187,188,191,192,193,194,195,196,197,200,201,202,203,204,205,206,208,209,210,211,219,220,221,222,223,224,225,226,228,229,230,231,232,233,234,235,238,256,257,258].any (Nat.beq g)||Nat.ble 1048576 g
@[reducible] def zJ:Ty:=.int .i64
@[reducible] def zI:Bool×Ty:=(false,zJ)
@[reducible] def T0:Ty:=.pair .bool zJ
@[reducible] def T1:Ty:=.pair .str T0
@[reducible] def T2:Ty:=.pair .str T1
@[reducible] def T3:Ty:=.pair zJ (.sl true T2)
@[reducible] def T4:Ty:=.pair zJ (.sl true (.sl true T3))
@[reducible] def T5:Ty:=.pair .str .bool
@[reducible] def T6:Ty:=.pair (.sl false zJ) zJ
@[reducible] def T7:Ty:=.pair (.sl true T5) T6
@[reducible] def T8:Ty:=.pair (.sl false zJ) T7
@[reducible] def T9:Ty:=.pair (.sl false (.sl true T2)) T8
@[reducible] def Zm:Ty:=.pair .bool T5
@[reducible] def tQ:Ty:=.pair (.sl true T2) zJ
@[reducible] def tR:Ty:=.pair Zm tQ
@[reducible] def Xn:Ty:=.pair T9 tR
@[reducible] def Xj:Ty:=.pair zJ Xn
@[reducible] def tT:Ty:=.pair (.sl true Xj) zJ
@[reducible] def Ur:Ty:=.pair T4 tT
@[reducible] def pY:Ty:=.pair (.sl true T5) .unit
@[reducible] def tU:Ty:=.pair Xj zJ
@[reducible] def eB:Ty:=.pair Ur tU
@[reducible] def pZ:Ty:=.pair zJ .bool
@[reducible] def tV:Ty:=.pair zJ zJ
@[reducible] def tW:Ty:=.pair zJ tV
@[reducible] def tX:Ty:=.pair zJ tW
@[reducible] def tY:Ty:=.pair zJ tX
@[reducible] def tZ:Ty:=.pair zJ tY
@[reducible] def tb:Ty:=.pair zJ tZ
@[reducible] def td:Ty:=.pair zJ tb
@[reducible] def te:Ty:=.pair zJ td
@[reducible] def tf:Ty:=.pair zJ te
@[reducible] def th:Ty:=.pair zJ tf
@[reducible] def tj:Ty:=.pair zJ th
@[reducible] def tn:Ty:=.pair zJ tj
@[reducible] def tp:Ty:=.pair zJ tn
@[reducible] def tL:Ty:=.pair zJ tp
def nq:List (FuncId×Sg):=[]
theorem nC:TabOK Tryz.prog (Ad pu nq):=SG _ _
def pf:List (Nat×Nat×Nat×An):=[(12,3,4,.loop { keep:=[0,1],kb:=[0],pl:=[.slot 3 false zJ,.slot 2 false .bool,.slot 4 false zJ],ex:=[(.exit 0,[]),(.ret,[])],pay:=.unit }),(12,6,15,.loop { keep:=[0,1,15,19,17,13,21,4,16,12,20,18,14],kb:=[0],pl:=[.slot 3 false zJ,.slot 5 false zJ,.slot 2 false .bool],ex:=[(.exit 2,[]),(.ret,[])],pay:=.unit }),(12,11,47,.loop { keep:=[0,1,3,15,31,47,19,35,51,27,43,5,17,33,49,25,41,13,21,37,53,29,45,4,16,32,48,24,40,12,20,36,52,28,44,6,18,34,50,26,42,14,54,30,46],kb:=[0],pl:=[.slot 7 false zJ,.slot 2 false .bool],ex:=[(.ret,[]),(.exit 4,[])],pay:=.unit }),(12,18,5,.loop { keep:=[0,1,3,4],kb:=[0],pl:=[.slot 2 false .bool,.slot 8 false zJ],ex:=[(.ret,[]),(.exit 6,[])],pay:=.unit }),(12,25,55,.loop { keep:=[0,1,3,127,95,111,135,103,119,131,115,107,91,123,9,129,97,113,137,105,121,133,101,117,109,93,125,2,4,8,128,96,112,136,104,120,132,116,108,92,124,130,98,114,106,90,122,134,102,118,110,94,126],kb:=[0,20],pl:=[.slot 11 false zJ,.slot 10 false zJ],ex:=[(.exit 8,[])],pay:=.unit })]
theorem tu (x:AP [(true,Ur)]):OE Tryz.prog (Ad pu nq) (Qq pf) 3000 60 12 [(true,Ur)] [(false,.bool)] x=Wh x:=by kernel_rfl
def nr:List (FuncId×Sg):=(12,⟨[(true,Ur)],[(false,.bool)],Wh⟩)::nq
theorem nD:TabOK Tryz.prog (Ad pu nr):=R1 nC tu
def oK:List (Nat×Nat×Nat×An):=[(109,2,2,.loop { keep:=[1,4],kb:=[],pl:=[.slot 0 false zJ,.slot 5 false zJ],ex:=[(.exit 0,[])],pay:=.unit })]
theorem qQ (x:AP [zI,zI]):OE Tryz.prog (Ad pu nr) (Qq oK) 3000 60 109 [zI,zI] [zI] x=VI x:=by kernel_rfl
def nu:List (FuncId×Sg):=(109,⟨[zI,zI],[zI],VI⟩)::nr
theorem nE:TabOK Tryz.prog (Ad pu nu):=R1 nD qQ
theorem qd (x:AP [(true,T2)]):OE Tryz.prog (Ad pu nu) (Qq []) 3000 60 122 [(true,T2)] [zI] x=VT x:=by kernel_rfl
def nv:List (FuncId×Sg):=(122,⟨[(true,T2)],[zI],VT⟩)::nu
theorem nF:TabOK Tryz.prog (Ad pu nv):=R1 nE qd
def pE:List (Nat×Nat×Nat×An):=[(220,2,2,.loop { keep:=[0,1,4],kb:=[],pl:=[.slot 5 false zJ],ex:=[(.exit 0,[])],pay:=.unit })]
theorem sR (x:AP [(false,.str),(false,.str)]):OE Tryz.prog (Ad pu nv) (Qq pE) 3000 60 220 [(false,.str),(false,.str)] [zI] x=V9 x:=by kernel_rfl
def ny:List (FuncId×Sg):=(220,⟨[(false,.str),(false,.str)],[zI],V9⟩)::nv
theorem nG:TabOK Tryz.prog (Ad pu ny):=R1 nF sR
theorem sC (x:AP [(false,.str),(false,.str)]):OE Tryz.prog (Ad pu ny) (Qq []) 3000 60 201 [(false,.str),(false,.str)] [zI] x=V0 x:=by kernel_rfl
def nz:List (FuncId×Sg):=(201,⟨[(false,.str),(false,.str)],[zI],V0⟩)::ny
theorem nH:TabOK Tryz.prog (Ad pu nz):=R1 nG sC
def ou:List (Nat×Nat×Nat×An):=[(185,4,6,.loop { keep:=[0,7,8,6],kb:=[],pl:=[.slot 3 false zJ,.slot 2 false zJ,.slot 4 false zJ],ex:=[(.ret,[]),(.exit 0,[])],pay:=.unit })]
theorem ra (x:AP [(false,(.sl true T2))]):OE Tryz.prog (Ad pu nz) (Qq ou) 3000 60 185 [(false,(.sl true T2))] [zI,zI] x=Ut x:=by kernel_rfl
def oA:List (FuncId×Sg):=(185,⟨[(false,(.sl true T2))],[zI,zI],Ut⟩)::nz
theorem nI:TabOK Tryz.prog (Ad pu oA):=R1 nH ra
theorem qx (x:AP [(true,T3)]):OE Tryz.prog (Ad pu oA) (Qq []) 3000 60 150 [(true,T3)] [zI,zI] x=WW x:=by kernel_rfl
def oB:List (FuncId×Sg):=(150,⟨[(true,T3)],[zI,zI],WW⟩)::oA
theorem nJ:TabOK Tryz.prog (Ad pu oB):=R1 nI qx
def oJ:List (Nat×Nat×Nat×An):=[(108,9,21,.loop { keep:=[0,1,3,7,15,23,11,19,25,13,21,2,8,16,24,12,20,10,18,26,14,22],kb:=[0],pl:=[.slot 9 false zJ,.slot 6 false zJ],ex:=[(.ret,[]),(.exit 0,[])],pay:=.unit })]
theorem qP (x:AP [(true,T3),zI,(false,(.sl false zJ))]):OE Tryz.prog (Ad pu oB) (Qq oJ) 3000 60 108 [(true,T3),zI,(false,(.sl false zJ))] [zI] x=Vo x:=by kernel_rfl
def oC:List (FuncId×Sg):=(108,⟨[(true,T3),zI,(false,(.sl false zJ))],[zI],Vo⟩)::oB
theorem nK:TabOK Tryz.prog (Ad pu oC):=R1 nJ qP
def qB:List (Nat×Nat×Nat×An):=[(64,7,18,.loop { keep:=[0,1,15,11,19,17,13,21,16,12,20,10,18,14],kb:=[0],pl:=[.slot 3 false zJ,.srow 5 false zJ false,.slot 2 false zJ,.slot 4 false zJ,.slot 6 false zJ],ex:=[(.ret,[]),(.exit 0,[])],pay:=.unit }),(64,13,35,.loop { keep:=[0,1,7,15,31,23,11,19,35,17,33,25,13,21,37,29,16,32,24,12,20,36,6,10,18,34,26,14,22,30],kb:=[0],pl:=[.slot 3 false zJ,.srow 5 false zJ false,.slot 2 false zJ,.slot 4 false zJ,.slot 8 false zJ],ex:=[(.ret,[]),(.exit 2,[])],pay:=.unit })]
theorem uR (x:AP [(true,T4)]):OE Tryz.prog (Ad pu oC) (Qq qB) 3000 60 64 [(true,T4)] [zI,zI,zI] x=Uf x:=by kernel_rfl
def oD:List (FuncId×Sg):=(64,⟨[(true,T4)],[zI,zI,zI],Uf⟩)::oC
theorem nL:TabOK Tryz.prog (Ad pu oD):=R1 nK uR
def qA:List (Nat×Nat×Nat×An):=[(62,6,16,.loop { keep:=[0,1,3,15,11,5,17,13,2,4,16,12,6,10,14],kb:=[0],pl:=[.srow 7 true T3 false,.slot 8 false zJ],ex:=[(.exit 0,[])],pay:=.unit }),(62,9,31,.loop { keep:=[0,1,3,15,31,23,11,19,27,5,17,33,13,21,29,2,4,8,16,32,12,20,28,6,10,26,14,22,30],kb:=[0],pl:=[.srow 7 true T3 false,.slot 9 false zJ],ex:=[(.exit 2,[])],pay:=.unit })]
theorem uQ (x:AP [(true,T4)]):OE Tryz.prog (Ad pu oD) (Qq qA) 3000 60 62 [(true,T4)] [(false,(.sl true T3)),zI] x=WC x:=by kernel_rfl
def ib:List (FuncId×Sg):=(62,⟨[(true,T4)],[(false,(.sl true T3)),zI],WC⟩)::oD
theorem ic:TabOK Tryz.prog (Ad pu ib):=R1 nL uQ
def qC:List (Nat×Nat×Nat×An):=[(65,4,11,.loop { keep:=[0,1,3,7,11,9,2,4,8,10],kb:=[0],pl:=[.slot 5 false zJ,.slot 6 false zJ],ex:=[(.exit 0,[])],pay:=.unit })]
theorem uS (x:AP [(true,T4)]):OE Tryz.prog (Ad pu ib) (Qq qC) 3000 60 65 [(true,T4)] [zI] x=Ua x:=by kernel_rfl
def ie:List (FuncId×Sg):=(65,⟨[(true,T4)],[zI],Ua⟩)::ib
theorem ig:TabOK Tryz.prog (Ad pu ie):=R1 ic uS
def qD:List (Nat×Nat×Nat×An):=[(66,3,4,.loop { keep:=[0,1,2],kb:=[0],pl:=[.srow 3 false zJ false,.slot 4 false zJ],ex:=[(.exit 0,[])],pay:=.unit })]
theorem uT (x:AP [(true,T4)]):OE Tryz.prog (Ad pu ie) (Qq qD) 3000 60 66 [(true,T4)] [(false,(.sl false zJ))] x=UE x:=by kernel_rfl
def ii:List (FuncId×Sg):=(66,⟨[(true,T4)],[(false,(.sl false zJ))],UE⟩)::ie
theorem ij:TabOK Tryz.prog (Ad pu ii):=R1 ig uT
theorem qy (x:AP [(true,T4),zI]):OE Tryz.prog (Ad pu ii) (Qq []) 3000 60 151 [(true,T4),zI] [zI] x=XY x:=by kernel_rfl
def ik:List (FuncId×Sg):=(151,⟨[(true,T4),zI],[zI],XY⟩)::ii
theorem il:TabOK Tryz.prog (Ad pu ik):=R1 ij qy
end Go.Proofs.YtfilfloanndddaaGreat.Pt
