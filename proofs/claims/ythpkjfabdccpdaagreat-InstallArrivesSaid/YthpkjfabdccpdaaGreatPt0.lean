/- The evaluator comes to each of the plain functions. No condition. -/
import Derived.Test.YthpkjfabdccpdaaGreatPl3
import Derived.Test.YthpkjfabdccpdaaGreatProg
set_option linter.all false
namespace Go.Proofs.YthpkjfabdccpdaaGreat.Pt
open Go Go.Proofs.YthpkjfabdccpdaaGreat.Sv Go.Proofs.YthpkjfabdccpdaaGreat.Pl
set_option maxRecDepth 1000000
set_option linter.unusedVariables false
def pu (g:Nat):Bool:=[2,3,4,5,6,7,8,9,10,11,12,13,14,15,16,17,18,19,20,21,22,23,24,25,26,27,28,29,30,31,32,33,34,35,36,37,38,39,40,41,43,44,45,46,47,48,49,50,51,52,53,54,55,56,57,58,59,60,61,62,63,64,65,66,67,68,69,70,71,72,73,74,75,78,79,81,82,83,84,85,86,87,88,89,90,91,92,93,94,95,96,98,99,100,101,102,103,104,105,106,107,108,109,110,111,112,113,114,115,116,117,118,119,120,121,122,124,125,126,127,128,129,132,135,136,138,140,142,143,144,147,148,149,151,153,154,155,156,157,158,164,165,166,167,168,169,171,172,173,174,175,176,177,180,181,182,183,184,185,186,187,188,189,190,191,192,193,194,195,196,197,198,200,201,202,203,204,205,206,207,208,209,213,214,215,220,222,223,224,225,226,227,228,229,230,231,232,233,234,235,236,237,239,240,241,242,243,244,245,246,248,249,250,251,254,255,257,258,259,260,268,269,270,271,272,273,274,275,276,278,279,280,281,282,283,284,285,287,289,307,308,309].any (Nat.beq g)||Nat.ble 1048576 g
@[reducible] def T0:Ty:=.pair .bool (.int .i64)
@[reducible] def T1:Ty:=.pair .str T0
@[reducible] def T2:Ty:=.pair .str T1
@[reducible] def T3:Ty:=.pair (.int .i64) (.sl true T2)
@[reducible] def T4:Ty:=.pair (.int .i64) (.sl true (.sl true T3))
@[reducible] def T5:Ty:=.pair .str .bool
@[reducible] def T6:Ty:=.pair (.sl false (.int .i64)) (.int .i64)
@[reducible] def T7:Ty:=.pair (.sl true T5) T6
@[reducible] def T8:Ty:=.pair (.sl false (.int .i64)) T7
@[reducible] def T9:Ty:=.pair (.sl false (.sl true T2)) T8
@[reducible] def Om:Ty:=.pair .bool T5
@[reducible] def nR:Ty:=.pair (.sl true T2) (.int .i64)
@[reducible] def nS:Ty:=.pair Om nR
@[reducible] def H4:Ty:=.pair T9 nS
@[reducible] def JA:Ty:=.pair (.int .i64) H4
@[reducible] def nT:Ty:=.pair (.sl true JA) (.int .i64)
@[reducible] def E5:Ty:=.pair T4 nT
@[reducible] def kC:Ty:=.pair (.sl true T5) .unit
@[reducible] def nU:Ty:=.pair JA (.int .i64)
@[reducible] def WC:Ty:=.pair E5 nU
def gv:List (FuncId×Sg):=[]
theorem fY:TabOK Tryz.prog (AB pu gv):=fA _ _
def kD:List (Nat×Nat×Nat×An):=[(84,2,2,.loop { keep:=[0],kb:=[],pl:=[.slot 3 false (.int .i64),.slot 2 false .bool],ex:=[(.ret,[]),(.exit 0,[])],pay:=.unit })]
theorem nV (x:AG [(false,(.sl true T2))]):Aa Tryz.prog (AB pu gv) (AH kD) 3000 60 84 [(false,(.sl true T2))] [(false,.bool)] x=Cf x:=by kernel_rfl
def gw:List (FuncId×Sg):=(84,⟨[(false,(.sl true T2))],[(false,.bool)],Cf⟩)::gv
theorem fZ:TabOK Tryz.prog (AB pu gw):=AE fY nV
def kF:List (Nat×Nat×Nat×An):=[(35,2,2,.loop { keep:=[0],kb:=[],pl:=[.slot 3 false (.int .i64),.slot 2 false .bool],ex:=[(.ret,[]),(.exit 0,[])],pay:=.unit })]
theorem nX (x:AG [(false,(.sl true T2))]):Aa Tryz.prog (AB pu gw) (AH kF) 3000 60 35 [(false,(.sl true T2))] [(false,.bool)] x=Dz x:=by kernel_rfl
def gx:List (FuncId×Sg):=(35,⟨[(false,(.sl true T2))],[(false,.bool)],Dz⟩)::gw
theorem fa:TabOK Tryz.prog (AB pu gx):=AE fZ nX
def ii:List (Nat×Nat×Nat×An):=[(165,2,2,.loop { keep:=[0],kb:=[],pl:=[.slot 3 false (.int .i64),.slot 2 false .bool],ex:=[(.ret,[]),(.exit 0,[])],pay:=.unit })]
theorem kG (x:AG [(false,(.sl true T3))]):Aa Tryz.prog (AB pu gx) (AH ii) 3000 60 165 [(false,(.sl true T3))] [(false,.bool)] x=Cm x:=by kernel_rfl
def gy:List (FuncId×Sg):=(165,⟨[(false,(.sl true T3))],[(false,.bool)],Cm⟩)::gx
theorem fb:TabOK Tryz.prog (AB pu gy):=AE fa kG
def kH:List (Nat×Nat×Nat×An):=[(85,2,3,.loop { keep:=[0,1],kb:=[0],pl:=[.slot 3 false (.int .i64),.slot 2 false .bool],ex:=[(.ret,[]),(.exit 0,[])],pay:=.unit })]
theorem nY (x:AG [(true,T4)]):Aa Tryz.prog (AB pu gy) (AH kH) 3000 60 85 [(true,T4)] [(false,.bool)] x=F6 x:=by kernel_rfl
def gz:List (FuncId×Sg):=(85,⟨[(true,T4)],[(false,.bool)],F6⟩)::gy
theorem fc:TabOK Tryz.prog (AB pu gz):=AE fb nY
def kI:List (Nat×Nat×Nat×An):=[(22,2,3,.loop { keep:=[0,1],kb:=[0],pl:=[.slot 3 false (.int .i64),.slot 2 false .bool],ex:=[(.exit 0,[]),(.ret,[])],pay:=.unit }),(22,6,21,.loop { keep:=[0,1,3,7,11,19,9,17,13,21,4,8,12,20,6,10,18,14,22],kb:=[0,18],pl:=[.slot 5 false (.int .i64),.slot 2 false .bool],ex:=[(.ret,[]),(.exit 2,[])],pay:=.unit })]
theorem nZ (x:AG [(true,E5)]):Aa Tryz.prog (AB pu gz) (AH kI) 3000 60 22 [(true,E5)] [(false,.bool)] x=F7 x:=by kernel_rfl
def g9:List (FuncId×Sg):=(22,⟨[(true,E5)],[(false,.bool)],F7⟩)::gz
theorem fe:TabOK Tryz.prog (AB pu g9):=AE fc nZ
def ij:List (Nat×Nat×Nat×An):=[(166,3,6,.loop { keep:=[0,1,7,9,2,6,10],kb:=[0],pl:=[.slot 8 false (.int .i64),.box 3 [.lf (.int .i64),.ow true T2 false]],ex:=[(.exit 0,[])],pay:=.unit })]
theorem kJ (x:AG [(false,(.int .i64)),(false,.bool),(false,.str)]):Aa Tryz.prog (AB pu g9) (AH ij) 3000 60 166 [(false,(.int .i64)),(false,.bool),(false,.str)] [(true,T3)] x=Iz x:=by kernel_rfl
def hC:List (FuncId×Sg):=(166,⟨[(false,(.int .i64)),(false,.bool),(false,.str)],[(true,T3)],Iz⟩)::g9
theorem ff:TabOK Tryz.prog (AB pu hC):=AE fe kJ
theorem na (x:AG []):Aa Tryz.prog (AB pu hC) (AH []) 3000 60 87 [] [(true,T4)] x=Gz x:=by kernel_rfl
def hG:List (FuncId×Sg):=(87,⟨[],[(true,T4)],Gz⟩)::hC
theorem fh:TabOK Tryz.prog (AB pu hG):=AE ff na
def ik:List (Nat×Nat×Nat×An):=[(188,2,2,.loop { keep:=[1,4],kb:=[],pl:=[.slot 0 false (.int .i64),.slot 5 false (.int .i64)],ex:=[(.exit 0,[])],pay:=.unit })]
theorem kK (x:AG [(false,(.int .i64)),(false,(.int .i64))]):Aa Tryz.prog (AB pu hG) (AH ik) 3000 60 188 [(false,(.int .i64)),(false,(.int .i64))] [(false,(.int .i64))] x=C9 x:=by kernel_rfl
def iA:List (FuncId×Sg):=(188,⟨[(false,(.int .i64)),(false,(.int .i64))],[(false,(.int .i64))],C9⟩)::hG
theorem fi:TabOK Tryz.prog (AB pu iA):=AE fh kK
theorem kL (x:AG [(true,T2)]):Aa Tryz.prog (AB pu iA) (AH []) 3000 60 203 [(true,T2)] [(false,(.int .i64))] x=DJ x:=by kernel_rfl
def iB:List (FuncId×Sg):=(203,⟨[(true,T2)],[(false,(.int .i64))],DJ⟩)::iA
theorem fj:TabOK Tryz.prog (AB pu iB):=AE fi kL
def il:List (Nat×Nat×Nat×An):=[(249,2,2,.loop { keep:=[0,1,4],kb:=[],pl:=[.slot 5 false (.int .i64)],ex:=[(.exit 0,[])],pay:=.unit })]
theorem kM (x:AG [(false,.str),(false,.str)]):Aa Tryz.prog (AB pu iB) (AH il) 3000 60 249 [(false,.str),(false,.str)] [(false,(.int .i64))] x=Ec x:=by kernel_rfl
def Zl:List (FuncId×Sg):=(249,⟨[(false,.str),(false,.str)],[(false,(.int .i64))],Ec⟩)::iB
theorem Zm:TabOK Tryz.prog (AB pu Zl):=AE fj kM
theorem kN (x:AG [(false,.str),(false,.str)]):Aa Tryz.prog (AB pu Zl) (AH []) 3000 60 225 [(false,.str),(false,.str)] [(false,(.int .i64))] x=EE x:=by kernel_rfl
def Zn:List (FuncId×Sg):=(225,⟨[(false,.str),(false,.str)],[(false,(.int .i64))],EE⟩)::Zl
theorem Zo:TabOK Tryz.prog (AB pu Zn):=AE Zm kN
def im:List (Nat×Nat×Nat×An):=[(185,4,6,.loop { keep:=[0,7,8,6],kb:=[],pl:=[.slot 3 false (.int .i64),.slot 2 false (.int .i64),.slot 4 false (.int .i64)],ex:=[(.ret,[]),(.exit 0,[])],pay:=.unit })]
theorem kO (x:AG [(false,(.sl true T2))]):Aa Tryz.prog (AB pu Zn) (AH im) 3000 60 185 [(false,(.sl true T2))] [(false,(.int .i64)),(false,(.int .i64))] x=CX x:=by kernel_rfl
def Zp:List (FuncId×Sg):=(185,⟨[(false,(.sl true T2))],[(false,(.int .i64)),(false,(.int .i64))],CX⟩)::Zn
theorem Zq:TabOK Tryz.prog (AB pu Zp):=AE Zo kO
theorem kP (x:AG [(true,T3)]):Aa Tryz.prog (AB pu Zp) (AH []) 3000 60 110 [(true,T3)] [(false,(.int .i64)),(false,(.int .i64))] x=EF x:=by kernel_rfl
def Zr:List (FuncId×Sg):=(110,⟨[(true,T3)],[(false,(.int .i64)),(false,(.int .i64))],EF⟩)::Zp
theorem Zs:TabOK Tryz.prog (AB pu Zr):=AE Zq kP
end Go.Proofs.YthpkjfabdccpdaaGreat.Pt
