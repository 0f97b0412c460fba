/- The evaluator comes to each of the plain functions. No condition. -/
import Derived.Test.YthpkjfabdccpdaaGreatPl3
import Derived.Test.YthpkjfabdccpdaaGreatProg
set_option linter.all false
namespace Go.Proofs.YthpkjfabdccpdaaGreat.Pt
open Go Go.Proofs.YthpkjfabdccpdaaGreat.Sv Go.Proofs.YthpkjfabdccpdaaGreat.Pl
set_option maxRecDepth 1000000
set_option linter.unusedVariables false
def pu (g:Nat):Bool:=[2,3,4,5,6,7,8,9,10,11,12,13,14,15,16,17,18,19,20,21,22,23,24,25,26,27,28,29,30,31,32,33,34,35,36,37,38,39,40,41,43,44,45,46,47,48,49,50,51,52,53,54,55,56,57,58,59,60,61,62,63,64,65,66,67,68,69,70,71,72,73,74,75,78,79,81,82,83,84,85,86,87,88,89,90,91,92,93,94,95,96,98,99,100,101,102,103,104,105,106,107,108,109,110,111,112,113,114,115,116,117,118,119,120,121,122,124,125,126,127,128,129,132,135,136,138,140,142,143,144,147,148,149,151,153,154,155,156,157,158,164,165,166,167,168,169,171,172,173,174,175,176,177,180,181,182,183,184,185,186,187,188,189,190,191,192,193,194,195,196,197,198,200,201,202,203,204,205,206,207,208,209,213,214,215,220,222,223,224,225,226,227,228,229,230,231,232,233,234,235,236,237,239,240,241,242,243,244,245,246,248,249,250,251,254,255,257,258,259,260,268,269,270,271,272,273,274,275,276,278,279,280,281,282,283,284,285,287,289,307,308,309].any (Nat.beq g)||Nat.ble 1048576 g
@[reducible] def T0:Ty:=.pair .bool (.int .i64)
@[reducible] def T1:Ty:=.pair .str T0
@[reducible] def T2:Ty:=.pair .str T1
@[reducible] def T3:Ty:=.pair (.int .i64) (.sl true T2)
@[reducible] def T4:Ty:=.pair (.int .i64) (.sl true (.sl true T3))
@[reducible] def T5:Ty:=.pair .str .bool
@[reducible] def T6:Ty:=.pair (.sl false (.int .i64)) (.int .i64)
@[reducible] def T7:Ty:=.pair (.sl true T5) T6
@[reducible] def T8:Ty:=.pair (.sl false (.int .i64)) T7
@[reducible] def T9:Ty:=.pair (.sl false (.sl true T2)) T8
@[reducible] def PP:Ty:=.pair .bool T5
@[reducible] def o6:Ty:=.pair (.sl true T2) (.int .i64)
@[reducible] def o7:Ty:=.pair PP o6
@[reducible] def IK:Ty:=.pair T9 o7
@[reducible] def IL:Ty:=.pair (.int .i64) IK
@[reducible] def o8:Ty:=.pair (.sl true IL) (.int .i64)
@[reducible] def C9:Ty:=.pair T4 o8
@[reducible] def lR:Ty:=.pair (.sl true T5) .unit
@[reducible] def o9:Ty:=.pair IL (.int .i64)
@[reducible] def Wr:Ty:=.pair C9 o9
def jA:List (FuncId×Sg):=[]
theorem gq:TabOK Tryz.prog (AC pu jA):=gP _ _
def lS:List (Nat×Nat×Nat×An):=[(84,2,2,.loop { keep:=[0],kb:=[],pl:=[.slot 3 false (.int .i64),.slot 2 false .bool],ex:=[(.ret,[]),(.exit 0,[])],pay:=.unit })]
theorem pA (x:AG [(false,(.sl true T2))]):AZ Tryz.prog (AC pu jA) (AH lS) 3000 60 84 [(false,(.sl true T2))] [(false,.bool)] x=Cq x:=by kernel_rfl
def jB:List (FuncId×Sg):=(84,⟨[(false,(.sl true T2))],[(false,.bool)],Cq⟩)::jA
theorem gr:TabOK Tryz.prog (AC pu jB):=AF gq pA
def lT:List (Nat×Nat×Nat×An):=[(35,2,2,.loop { keep:=[0],kb:=[],pl:=[.slot 3 false (.int .i64),.slot 2 false .bool],ex:=[(.ret,[]),(.exit 0,[])],pay:=.unit })]
theorem pB (x:AG [(false,(.sl true T2))]):AZ Tryz.prog (AC pu jB) (AH lT) 3000 60 35 [(false,(.sl true T2))] [(false,.bool)] x=E6 x:=by kernel_rfl
def jC:List (FuncId×Sg):=(35,⟨[(false,(.sl true T2))],[(false,.bool)],E6⟩)::jB
theorem gu:TabOK Tryz.prog (AC pu jC):=AF gr pB
def jm:List (Nat×Nat×Nat×An):=[(165,2,2,.loop { keep:=[0],kb:=[],pl:=[.slot 3 false (.int .i64),.slot 2 false .bool],ex:=[(.ret,[]),(.exit 0,[])],pay:=.unit })]
theorem lU (x:AG [(false,(.sl true T3))]):AZ Tryz.prog (AC pu jC) (AH jm) 3000 60 165 [(false,(.sl true T3))] [(false,.bool)] x=Cy x:=by kernel_rfl
def jD:List (FuncId×Sg):=(165,⟨[(false,(.sl true T3))],[(false,.bool)],Cy⟩)::jC
theorem gv:TabOK Tryz.prog (AC pu jD):=AF gu lU
def lV:List (Nat×Nat×Nat×An):=[(85,2,3,.loop { keep:=[0,1],kb:=[0],pl:=[.slot 3 false (.int .i64),.slot 2 false .bool],ex:=[(.ret,[]),(.exit 0,[])],pay:=.unit })]
theorem pC (x:AG [(true,T4)]):AZ Tryz.prog (AC pu jD) (AH lV) 3000 60 85 [(true,T4)] [(false,.bool)] x=GN x:=by kernel_rfl
def jE:List (FuncId×Sg):=(85,⟨[(true,T4)],[(false,.bool)],GN⟩)::jD
theorem gw:TabOK Tryz.prog (AC pu jE):=AF gv pC
def lW:List (Nat×Nat×Nat×An):=[(22,2,3,.loop { keep:=[0,1],kb:=[0],pl:=[.slot 3 false (.int .i64),.slot 2 false .bool],ex:=[(.exit 0,[]),(.ret,[])],pay:=.unit }),(22,6,21,.loop { keep:=[0,1,3,7,11,19,9,17,13,21,4,8,12,20,6,10,18,14,22],kb:=[0,18],pl:=[.slot 5 false (.int .i64),.slot 2 false .bool],ex:=[(.ret,[]),(.exit 2,[])],pay:=.unit })]
theorem pD (x:AG [(true,C9)]):AZ Tryz.prog (AC pu jE) (AH lW) 3000 60 22 [(true,C9)] [(false,.bool)] x=GO x:=by kernel_rfl
def jF:List (FuncId×Sg):=(22,⟨[(true,C9)],[(false,.bool)],GO⟩)::jE
theorem gx:TabOK Tryz.prog (AC pu jF):=AF gw pD
def jo:List (Nat×Nat×Nat×An):=[(166,3,6,.loop { keep:=[0,1,7,9,2,6,10],kb:=[0],pl:=[.slot 8 false (.int .i64),.box 3 [.lf (.int .i64),.ow true T2 false]],ex:=[(.exit 0,[])],pay:=.unit })]
theorem lX (x:AG [(false,(.int .i64)),(false,.bool),(false,.str)]):AZ Tryz.prog (AC pu jF) (AH jo) 3000 60 166 [(false,(.int .i64)),(false,.bool),(false,.str)] [(true,T3)] x=JG x:=by kernel_rfl
def jG:List (FuncId×Sg):=(166,⟨[(false,(.int .i64)),(false,.bool),(false,.str)],[(true,T3)],JG⟩)::jF
theorem gy:TabOK Tryz.prog (AC pu jG):=AF gx lX
theorem pE (x:AG []):AZ Tryz.prog (AC pu jG) (AH []) 3000 60 87 [] [(true,T4)] x=HG x:=by kernel_rfl
def jH:List (FuncId×Sg):=(87,⟨[],[(true,T4)],HG⟩)::jG
theorem gz:TabOK Tryz.prog (AC pu jH):=AF gy pE
def jp:List (Nat×Nat×Nat×An):=[(188,2,2,.loop { keep:=[1,4],kb:=[],pl:=[.slot 0 false (.int .i64),.slot 5 false (.int .i64)],ex:=[(.exit 0,[])],pay:=.unit })]
theorem lY (x:AG [(false,(.int .i64)),(false,(.int .i64))]):AZ Tryz.prog (AC pu jH) (AH jp) 3000 60 188 [(false,(.int .i64)),(false,(.int .i64))] [(false,(.int .i64))] x=DM x:=by kernel_rfl
def jI:List (FuncId×Sg):=(188,⟨[(false,(.int .i64)),(false,(.int .i64))],[(false,(.int .i64))],DM⟩)::jH
theorem g9:TabOK Tryz.prog (AC pu jI):=AF gz lY
theorem lZ (x:AG [(true,T2)]):AZ Tryz.prog (AC pu jI) (AH []) 3000 60 203 [(true,T2)] [(false,(.int .i64))] x=DV x:=by kernel_rfl
def jJ:List (FuncId×Sg):=(203,⟨[(true,T2)],[(false,(.int .i64))],DV⟩)::jI
theorem hC:TabOK Tryz.prog (AC pu jJ):=AF g9 lZ
def jq:List (Nat×Nat×Nat×An):=[(249,2,2,.loop { keep:=[0,1,4],kb:=[],pl:=[.slot 5 false (.int .i64)],ex:=[(.exit 0,[])],pay:=.unit })]
theorem ld (x:AG [(false,.str),(false,.str)]):AZ Tryz.prog (AC pu jJ) (AH jq) 3000 60 249 [(false,.str),(false,.str)] [(false,(.int .i64))] x=Ek x:=by kernel_rfl
def ak:List (FuncId×Sg):=(249,⟨[(false,.str),(false,.str)],[(false,(.int .i64))],Ek⟩)::jJ
theorem al:TabOK Tryz.prog (AC pu ak):=AF hC ld
theorem lg (x:AG [(false,.str),(false,.str)]):AZ Tryz.prog (AC pu ak) (AH []) 3000 60 225 [(false,.str),(false,.str)] [(false,(.int .i64))] x=EO x:=by kernel_rfl
def am:List (FuncId×Sg):=(225,⟨[(false,.str),(false,.str)],[(false,(.int .i64))],EO⟩)::ak
theorem an:TabOK Tryz.prog (AC pu am):=AF al lg
def jr:List (Nat×Nat×Nat×An):=[(185,4,6,.loop { keep:=[0,7,8,6],kb:=[],pl:=[.slot 3 false (.int .i64),.slot 2 false (.int .i64),.slot 4 false (.int .i64)],ex:=[(.ret,[]),(.exit 0,[])],pay:=.unit })]
theorem lh (x:AG [(false,(.sl true T2))]):AZ Tryz.prog (AC pu am) (AH jr) 3000 60 185 [(false,(.sl true T2))] [(false,(.int .i64)),(false,(.int .i64))] x=Cj x:=by kernel_rfl
def ao:List (FuncId×Sg):=(185,⟨[(false,(.sl true T2))],[(false,(.int .i64)),(false,(.int .i64))],Cj⟩)::am
theorem ap:TabOK Tryz.prog (AC pu ao):=AF an lh
theorem lj (x:AG [(true,T3)]):AZ Tryz.prog (AC pu ao) (AH []) 3000 60 110 [(true,T3)] [(false,(.int .i64)),(false,(.int .i64))] x=FN x:=by kernel_rfl
def aq:List (FuncId×Sg):=(110,⟨[(true,T3)],[(false,(.int .i64)),(false,(.int .i64))],FN⟩)::ao
theorem au:TabOK Tryz.prog (AC pu aq):=AF ap lj
end Go.Proofs.YthpkjfabdccpdaaGreat.Pt
