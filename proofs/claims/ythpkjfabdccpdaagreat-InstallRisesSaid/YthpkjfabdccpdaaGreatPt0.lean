/- The evaluator comes to each of the plain functions. No condition. -/
import Derived.Test.YthpkjfabdccpdaaGreatPl3
import Derived.Test.YthpkjfabdccpdaaGreatProg
set_option linter.all false
namespace Go.Proofs.YthpkjfabdccpdaaGreat.Pt
open Go Go.Proofs.YthpkjfabdccpdaaGreat.Sv Go.Proofs.YthpkjfabdccpdaaGreat.Pl
set_option maxRecDepth 1000000
set_option linter.unusedVariables false
def pu (g:Nat):Bool:=[2,3,4,5,6,7,8,9,10,11,12,13,14,15,16,17,18,19,20,21,22,23,24,25,26,27,28,29,30,31,32,33,34,35,36,37,38,39,40,41,43,44,45,46,47,48,49,50,51,52,53,54,55,56,57,58,59,60,61,62,63,64,65,66,67,68,69,70,71,72,73,74,75,78,79,81,82,83,84,85,86,87,88,89,90,91,92,93,94,95,96,98,99,100,101,102,103,104,105,106,107,108,109,110,111,112,113,114,115,116,117,118,119,120,121,122,124,125,126,127,128,129,132,135,136,138,140,142,143,144,147,148,149,151,153,154,155,156,157,158,164,165,166,167,168,169,171,172,173,174,175,176,177,180,181,182,183,184,185,186,187,188,189,190,191,192,193,194,195,196,197,198,200,201,202,203,204,205,206,207,208,209,213,214,215,220,222,223,224,225,226,227,228,229,230,231,232,233,234,235,236,237,239,240,241,242,243,244,245,246,248,249,250,251,254,255,257,258,259,260,268,269,270,271,272,273,274,275,276,278,279,280,281,282,283,284,285,287,289,307,308,309].any (Nat.beq g)||Nat.ble 1048576 g
@[reducible] def T0:Ty:=.pair .bool (.int .i64)
@[reducible] def T1:Ty:=.pair .str T0
@[reducible] def T2:Ty:=.pair .str T1
@[reducible] def T3:Ty:=.pair (.int .i64) (.sl true T2)
@[reducible] def T4:Ty:=.pair (.int .i64) (.sl true (.sl true T3))
@[reducible] def T5:Ty:=.pair .str .bool
@[reducible] def T6:Ty:=.pair (.sl false (.int .i64)) (.int .i64)
@[reducible] def T7:Ty:=.pair (.sl true T5) T6
@[reducible] def T8:Ty:=.pair (.sl false (.int .i64)) T7
@[reducible] def T9:Ty:=.pair (.sl false (.sl true T2)) T8
@[reducible] def W0:Ty:=.pair .bool T5
@[reducible] def lr:Ty:=.pair (.sl true T2) (.int .i64)
@[reducible] def lu:Ty:=.pair W0 lr
@[reducible] def Oy:Ty:=.pair T9 lu
@[reducible] def MI:Ty:=.pair (.int .i64) Oy
@[reducible] def lw:Ty:=.pair (.sl true MI) (.int .i64)
@[reducible] def Gw:Ty:=.pair T4 lw
@[reducible] def jF:Ty:=.pair (.sl true T5) .unit
@[reducible] def lx:Ty:=.pair MI (.int .i64)
@[reducible] def Vq:Ty:=.pair Gw lx
def gD:List (FuncId×Sg):=[]
theorem eR:TabOK Tryz.prog (AC pu gD):=du _ _
def jG:List (Nat×Nat×Nat×An):=[(84,2,2,.loop { keep:=[0],kb:=[],pl:=[.slot 3 false (.int .i64),.slot 2 false .bool],ex:=[(.ret,[]),(.exit 0,[])],pay:=.unit })]
theorem ly (x:AF [(false,(.sl true T2))]):Aj Tryz.prog (AC pu gD) (AK jG) 3000 60 84 [(false,(.sl true T2))] [(false,.bool)] x=Ci x:=by kernel_rfl
def gE:List (FuncId×Sg):=(84,⟨[(false,(.sl true T2))],[(false,.bool)],Ci⟩)::gD
theorem eU:TabOK Tryz.prog (AC pu gE):=AG eR ly
def jH:List (Nat×Nat×Nat×An):=[(35,2,2,.loop { keep:=[0],kb:=[],pl:=[.slot 3 false (.int .i64),.slot 2 false .bool],ex:=[(.ret,[]),(.exit 0,[])],pay:=.unit })]
theorem lz (x:AF [(false,(.sl true T2))]):Aj Tryz.prog (AC pu gE) (AK jH) 3000 60 35 [(false,(.sl true T2))] [(false,.bool)] x=El x:=by kernel_rfl
def gF:List (FuncId×Sg):=(35,⟨[(false,(.sl true T2))],[(false,.bool)],El⟩)::gE
theorem eV:TabOK Tryz.prog (AC pu gF):=AG eU lz
def gr:List (Nat×Nat×Nat×An):=[(165,2,2,.loop { keep:=[0],kb:=[],pl:=[.slot 3 false (.int .i64),.slot 2 false .bool],ex:=[(.ret,[]),(.exit 0,[])],pay:=.unit })]
theorem jI (x:AF [(false,(.sl true T3))]):Aj Tryz.prog (AC pu gF) (AK gr) 3000 60 165 [(false,(.sl true T3))] [(false,.bool)] x=Cs x:=by kernel_rfl
def gG:List (FuncId×Sg):=(165,⟨[(false,(.sl true T3))],[(false,.bool)],Cs⟩)::gF
theorem eW:TabOK Tryz.prog (AC pu gG):=AG eV jI
def jJ:List (Nat×Nat×Nat×An):=[(85,2,3,.loop { keep:=[0,1],kb:=[0],pl:=[.slot 3 false (.int .i64),.slot 2 false .bool],ex:=[(.ret,[]),(.exit 0,[])],pay:=.unit })]
theorem l7 (x:AF [(true,T4)]):Aj Tryz.prog (AC pu gG) (AK jJ) 3000 60 85 [(true,T4)] [(false,.bool)] x=Ft x:=by kernel_rfl
def gH:List (FuncId×Sg):=(85,⟨[(true,T4)],[(false,.bool)],Ft⟩)::gG
theorem eX:TabOK Tryz.prog (AC pu gH):=AG eW l7
def jK:List (Nat×Nat×Nat×An):=[(22,2,3,.loop { keep:=[0,1],kb:=[0],pl:=[.slot 3 false (.int .i64),.slot 2 false .bool],ex:=[(.exit 0,[]),(.ret,[])],pay:=.unit }),(22,6,21,.loop { keep:=[0,1,3,7,11,19,9,17,13,21,4,8,12,20,6,10,18,14,22],kb:=[0,18],pl:=[.slot 5 false (.int .i64),.slot 2 false .bool],ex:=[(.ret,[]),(.exit 2,[])],pay:=.unit })]
theorem l8 (x:AF [(true,Gw)]):Aj Tryz.prog (AC pu gH) (AK jK) 3000 60 22 [(true,Gw)] [(false,.bool)] x=Fu x:=by kernel_rfl
def gI:List (FuncId×Sg):=(22,⟨[(true,Gw)],[(false,.bool)],Fu⟩)::gH
theorem eY:TabOK Tryz.prog (AC pu gI):=AG eX l8
def gu:List (Nat×Nat×Nat×An):=[(166,3,6,.loop { keep:=[0,1,7,9,2,6,10],kb:=[0],pl:=[.slot 8 false (.int .i64),.box 3 [.lf (.int .i64),.ow true T2 false]],ex:=[(.exit 0,[])],pay:=.unit })]
theorem jL (x:AF [(false,(.int .i64)),(false,.bool),(false,.str)]):Aj Tryz.prog (AC pu gI) (AK gu) 3000 60 166 [(false,(.int .i64)),(false,.bool),(false,.str)] [(true,T3)] x=Ix x:=by kernel_rfl
def gJ:List (FuncId×Sg):=(166,⟨[(false,(.int .i64)),(false,.bool),(false,.str)],[(true,T3)],Ix⟩)::gI
theorem eZ:TabOK Tryz.prog (AC pu gJ):=AG eY jL
theorem l9 (x:AF []):Aj Tryz.prog (AC pu gJ) (AK []) 3000 60 87 [] [(true,T4)] x=Gp x:=by kernel_rfl
def gK:List (FuncId×Sg):=(87,⟨[],[(true,T4)],Gp⟩)::gJ
theorem ec:TabOK Tryz.prog (AC pu gK):=AG eZ l9
def gv:List (Nat×Nat×Nat×An):=[(188,2,2,.loop { keep:=[1,4],kb:=[],pl:=[.slot 0 false (.int .i64),.slot 5 false (.int .i64)],ex:=[(.exit 0,[])],pay:=.unit })]
theorem jM (x:AF [(false,(.int .i64)),(false,(.int .i64))]):Aj Tryz.prog (AC pu gK) (AK gv) 3000 60 188 [(false,(.int .i64)),(false,(.int .i64))] [(false,(.int .i64))] x=DH x:=by kernel_rfl
def gL:List (FuncId×Sg):=(188,⟨[(false,(.int .i64)),(false,(.int .i64))],[(false,(.int .i64))],DH⟩)::gK
theorem ef:TabOK Tryz.prog (AC pu gL):=AG ec jM
theorem jN (x:AF [(true,T2)]):Aj Tryz.prog (AC pu gL) (AK []) 3000 60 203 [(true,T2)] [(false,(.int .i64))] x=DQ x:=by kernel_rfl
def gN:List (FuncId×Sg):=(203,⟨[(true,T2)],[(false,(.int .i64))],DQ⟩)::gL
theorem eh:TabOK Tryz.prog (AC pu gN):=AG ef jN
def gw:List (Nat×Nat×Nat×An):=[(249,2,2,.loop { keep:=[0,1,4],kb:=[],pl:=[.slot 5 false (.int .i64)],ex:=[(.exit 0,[])],pay:=.unit })]
theorem jO (x:AF [(false,.str),(false,.str)]):Aj Tryz.prog (AC pu gN) (AK gw) 3000 60 249 [(false,.str),(false,.str)] [(false,(.int .i64))] x=EV x:=by kernel_rfl
def Yz:List (FuncId×Sg):=(249,⟨[(false,.str),(false,.str)],[(false,(.int .i64))],EV⟩)::gN
theorem Y5:TabOK Tryz.prog (AC pu Yz):=AG eh jO
theorem jP (x:AF [(false,.str),(false,.str)]):Aj Tryz.prog (AC pu Yz) (AK []) 3000 60 225 [(false,.str),(false,.str)] [(false,(.int .i64))] x=D9 x:=by kernel_rfl
def Y6:List (FuncId×Sg):=(225,⟨[(false,.str),(false,.str)],[(false,(.int .i64))],D9⟩)::Yz
theorem Y7:TabOK Tryz.prog (AC pu Y6):=AG Y5 jP
def gx:List (Nat×Nat×Nat×An):=[(185,4,6,.loop { keep:=[0,7,8,6],kb:=[],pl:=[.slot 3 false (.int .i64),.slot 2 false (.int .i64),.slot 4 false (.int .i64)],ex:=[(.ret,[]),(.exit 0,[])],pay:=.unit })]
theorem jQ (x:AF [(false,(.sl true T2))]):Aj Tryz.prog (AC pu Y6) (AK gx) 3000 60 185 [(false,(.sl true T2))] [(false,(.int .i64)),(false,(.int .i64))] x=Ca x:=by kernel_rfl
def Y8:List (FuncId×Sg):=(185,⟨[(false,(.sl true T2))],[(false,(.int .i64)),(false,(.int .i64))],Ca⟩)::Y6
theorem Y9:TabOK Tryz.prog (AC pu Y8):=AG Y7 jQ
theorem jR (x:AF [(true,T3)]):Aj Tryz.prog (AC pu Y8) (AK []) 3000 60 110 [(true,T3)] [(false,(.int .i64)),(false,(.int .i64))] x=E0 x:=by kernel_rfl
def ZA:List (FuncId×Sg):=(110,⟨[(true,T3)],[(false,(.int .i64)),(false,(.int .i64))],E0⟩)::Y8
theorem ZB:TabOK Tryz.prog (AC pu ZA):=AG Y9 jR
end Go.Proofs.YthpkjfabdccpdaaGreat.Pt
