/- The evaluator comes to each of the plain functions. No condition. -/
import Derived.Test.YthpkjfabdccpdaaGreatPl4
import Derived.Test.YthpkjfabdccpdaaGreatProg
set_option linter.all false
namespace Go.Proofs.YthpkjfabdccpdaaGreat.Pt
open Go Go.Proofs.YthpkjfabdccpdaaGreat.Sv Go.Proofs.YthpkjfabdccpdaaGreat.Pl
set_option maxRecDepth 1000000
set_option linter.unusedVariables false
def pu (g:Nat):Bool:=[2,3,4,5,6,7,8,9,10,11,12,13,14,15,16,17,18,19,20,21,22,23,24,25,26,27,28,29,30,31,32,33,34,35,36,37,38,39,40,41,43,44,45,46,47,48,49,50,51,52,53,54,55,56,57,58,59,60,61,62,63,64,65,66,67,68,69,70,71,72,73,74,75,78,79,81,82,83,84,85,86,87,88,89,90,91,92,93,94,95,96,98,99,100,101,102,103,104,105,106,107,108,109,110,111,112,113,114,115,116,117,118,119,120,121,122,124,125,126,127,128,129,132,135,136,138,140,142,143,144,147,148,149,151,153,154,155,156,157,158,164,165,166,167,168,169,171,172,173,174,175,176,177,180,181,182,183,184,185,186,187,188,189,190,191,192,193,194,195,196,197,198,200,201,202,203,204,205,206,207,208,209,213,214,215,220,222,223,224,225,226,227,228,229,230,231,232,233,234,235,236,237,239,240,241,242,243,244,245,246,248,249,250,251,254,255,257,258,259,260,268,269,270,271,272,273,274,275,276,278,279,280,281,282,283,284,285,287,289,307,308,309].any (Nat.beq g)||Nat.ble 1048576 g
@[reducible] def zJ:Ty:=.int .i64
@[reducible] def zI:Bool×Ty:=(false,zJ)
@[reducible] def T0:Ty:=.pair .bool zJ
@[reducible] def T1:Ty:=.pair .str T0
@[reducible] def T2:Ty:=.pair .str T1
@[reducible] def T3:Ty:=.pair zJ (.sl true T2)
@[reducible] def T4:Ty:=.pair zJ (.sl true (.sl true T3))
@[reducible] def T5:Ty:=.pair .str .bool
@[reducible] def T6:Ty:=.pair (.sl false zJ) zJ
@[reducible] def T7:Ty:=.pair (.sl true T5) T6
@[reducible] def T8:Ty:=.pair (.sl false zJ) T7
@[reducible] def T9:Ty:=.pair (.sl false (.sl true T2)) T8
@[reducible] def O0:Ty:=.pair .bool T5
@[reducible] def oq:Ty:=.pair (.sl true T2) zJ
@[reducible] def ot:Ty:=.pair O0 oq
@[reducible] def H5:Ty:=.pair T9 ot
@[reducible] def WS:Ty:=.pair zJ H5
@[reducible] def ou:Ty:=.pair (.sl true WS) zJ
@[reducible] def O1:Ty:=.pair T4 ou
@[reducible] def Kh:Ty:=.pair T3 O1
@[reducible] def lV:Ty:=.pair (.sl true T5) .unit
def i8:List (FuncId×Sg):=[]
theorem gP:TabOK Tryz.prog (AC pu i8):=fh _ _
def lW:List (Nat×Nat×Nat×An):=[(35,2,2,.loop { keep:=[0],kb:=[],pl:=[.slot 3 false zJ,.slot 2 false .bool],ex:=[(.ret,[]),(.exit 0,[])],pay:=.unit })]
theorem ov (x:AG [(false,(.sl true T2))]):Ac Tryz.prog (AC pu i8) (AI lW) 3000 60 35 [(false,(.sl true T2))] [(false,.bool)] x=D5 x:=by kernel_rfl
def i9:List (FuncId×Sg):=(35,⟨[(false,(.sl true T2))],[(false,.bool)],D5⟩)::i8
theorem gQ:TabOK Tryz.prog (AC pu i9):=AF gP ov
def lX:List (Nat×Nat×Nat×An):=[(84,2,2,.loop { keep:=[0],kb:=[],pl:=[.slot 3 false zJ,.slot 2 false .bool],ex:=[(.ret,[]),(.exit 0,[])],pay:=.unit })]
theorem oz (x:AG [(false,(.sl true T2))]):Ac Tryz.prog (AC pu i9) (AI lX) 3000 60 84 [(false,(.sl true T2))] [(false,.bool)] x=Cq x:=by kernel_rfl
def jA:List (FuncId×Sg):=(84,⟨[(false,(.sl true T2))],[(false,.bool)],Cq⟩)::i9
theorem gR:TabOK Tryz.prog (AC pu jA):=AF gQ oz
def jm:List (Nat×Nat×Nat×An):=[(165,2,2,.loop { keep:=[0],kb:=[],pl:=[.slot 3 false zJ,.slot 2 false .bool],ex:=[(.ret,[]),(.exit 0,[])],pay:=.unit })]
theorem lY (x:AG [(false,(.sl true T3))]):Ac Tryz.prog (AC pu jA) (AI jm) 3000 60 165 [(false,(.sl true T3))] [(false,.bool)] x=C0 x:=by kernel_rfl
def jB:List (FuncId×Sg):=(165,⟨[(false,(.sl true T3))],[(false,.bool)],C0⟩)::jA
theorem gS:TabOK Tryz.prog (AC pu jB):=AF gR lY
def lZ:List (Nat×Nat×Nat×An):=[(85,2,3,.loop { keep:=[0,1],kb:=[0],pl:=[.slot 3 false zJ,.slot 2 false .bool],ex:=[(.ret,[]),(.exit 0,[])],pay:=.unit })]
theorem o0 (x:AG [(true,T4)]):Ac Tryz.prog (AC pu jB) (AI lZ) 3000 60 85 [(true,T4)] [(false,.bool)] x=GC x:=by kernel_rfl
def jC:List (FuncId×Sg):=(85,⟨[(true,T4)],[(false,.bool)],GC⟩)::jB
theorem gT:TabOK Tryz.prog (AC pu jC):=AF gS o0
def ld:List (Nat×Nat×Nat×An):=[(22,2,3,.loop { keep:=[0,1],kb:=[0],pl:=[.slot 3 false zJ,.slot 2 false .bool],ex:=[(.exit 0,[]),(.ret,[])],pay:=.unit }),(22,6,21,.loop { keep:=[0,1,3,7,11,19,9,17,13,21,4,8,12,20,6,10,18,14,22],kb:=[0,18],pl:=[.slot 5 false zJ,.slot 2 false .bool],ex:=[(.ret,[]),(.exit 2,[])],pay:=.unit })]
theorem o4 (x:AG [(true,O1)]):Ac Tryz.prog (AC pu jC) (AI ld) 3000 60 22 [(true,O1)] [(false,.bool)] x=GD x:=by kernel_rfl
def jD:List (FuncId×Sg):=(22,⟨[(true,O1)],[(false,.bool)],GD⟩)::jC
theorem gU:TabOK Tryz.prog (AC pu jD):=AF gT o4
theorem o5 (x:AG [(true,Kh)]):Ac Tryz.prog (AC pu jD) (AI []) 3000 60 45 [(true,Kh)] [(false,.bool)] x=E4 x:=by kernel_rfl
def jE:List (FuncId×Sg):=(45,⟨[(true,Kh)],[(false,.bool)],E4⟩)::jD
theorem gV:TabOK Tryz.prog (AC pu jE):=AF gU o5
theorem lg (x:AG [zI]):Ac Tryz.prog (AC pu jE) (AI []) 3000 60 125 [zI] [(true,T3),zI] x=I3 x:=by kernel_rfl
def jF:List (FuncId×Sg):=(125,⟨[zI],[(true,T3),zI],I3⟩)::jE
theorem gW:TabOK Tryz.prog (AC pu jF):=AF gV lg
theorem lh (x:AG [zI]):Ac Tryz.prog (AC pu jF) (AI []) 3000 60 200 [zI] [(true,T4),zI] x=I4 x:=by kernel_rfl
def jG:List (FuncId×Sg):=(200,⟨[zI],[(true,T4),zI],I4⟩)::jF
theorem gX:TabOK Tryz.prog (AC pu jG):=AF gW lh
theorem lj (x:AG [zI]):Ac Tryz.prog (AC pu jG) (AI []) 3000 60 126 [zI] [(true,O1),zI] x=LM x:=by kernel_rfl
def jH:List (FuncId×Sg):=(126,⟨[zI],[(true,O1),zI],LM⟩)::jG
theorem gY:TabOK Tryz.prog (AC pu jH):=AF gX lj
theorem o6 (x:AG [zI]):Ac Tryz.prog (AC pu jH) (AI []) 3000 60 47 [zI] [(true,Kh),zI] x=HU x:=by kernel_rfl
def aD:List (FuncId×Sg):=(47,⟨[zI],[(true,Kh),zI],HU⟩)::jH
theorem aE:TabOK Tryz.prog (AC pu aD):=AF gY o6
theorem lm (x:AG [(false,.str)]):Ac Tryz.prog (AC pu aD) (AI []) 3000 60 235 [(false,.str)] [zI] x=Ev x:=by kernel_rfl
def aF:List (FuncId×Sg):=(235,⟨[(false,.str)],[zI],Ev⟩)::aD
theorem aG:TabOK Tryz.prog (AC pu aF):=AF aE lm
theorem lq (x:AG [(true,T2)]):Ac Tryz.prog (AC pu aF) (AI []) 3000 60 204 [(true,T2)] [zI] x=Ar x:=by kernel_rfl
def aH:List (FuncId×Sg):=(204,⟨[(true,T2)],[zI],Ar⟩)::aF
theorem aI:TabOK Tryz.prog (AC pu aH):=AF aG lq
def jo:List (Nat×Nat×Nat×An):=[(202,6,23,.loop { keep:=[0,1,7,15,23,11,19,9,17,25,13,21,8,16,24,12,20,10,18,14,22],kb:=[0],pl:=[.slot 3 false zJ,.slot 2 false zJ,.slot 26 false zJ],ex:=[(.ret,[]),(.exit 1,[])],pay:=.unit })]
theorem lr (x:AG [(true,T3)]):Ac Tryz.prog (AC pu aH) (AI jo) 3000 60 202 [(true,T3)] [zI,zI] x=BY x:=by kernel_rfl
def aJ:List (FuncId×Sg):=(202,⟨[(true,T3)],[zI,zI],BY⟩)::aH
theorem aK:TabOK Tryz.prog (AC pu aJ):=AF aI lr
end Go.Proofs.YthpkjfabdccpdaaGreat.Pt
