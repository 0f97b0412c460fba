/- The evaluator comes to each of the plain functions. No condition. -/
import Derived.Test.YthpkjfabdccpdaaGreatPl4
import Derived.Test.YthpkjfabdccpdaaGreatProg
set_option linter.all false
namespace Go.Proofs.YthpkjfabdccpdaaGreat.Pt
open Go Go.Proofs.YthpkjfabdccpdaaGreat.Sv Go.Proofs.YthpkjfabdccpdaaGreat.Pl
set_option maxRecDepth 1000000
set_option linter.unusedVariables false
def pu (g:Nat):Bool:=[2,3,4,5,6,7,8,9,10,11,12,13,14,15,16,17,18,19,20,21,22,23,24,25,26,27,28,29,30,31,32,33,34,35,36,37,38,39,40,41,43,44,45,46,47,48,49,50,51,52,53,54,55,56,57,58,59,60,61,62,63,64,65,66,67,68,69,70,71,72,73,74,75,78,79,81,82,83,84,85,86,87,88,89,90,91,92,93,94,95,96,98,99,100,101,102,103,104,105,106,107,108,109,110,111,112,113,114,115,116,117,118,119,120,121,122,124,125,126,127,128,129,132,135,136,138,140,142,143,144,147,148,149,151,153,154,155,156,157,158,164,165,166,167,168,169,171,172,173,174,175,176,177,180,181,182,183,184,185,186,187,188,189,190,191,192,193,194,195,196,197,198,200,201,202,203,204,205,206,207,208,209,213,214,215,220,222,223,224,225,226,227,228,229,230,231,232,233,234,235,236,237,239,240,241,242,243,244,245,246,248,249,250,251,254,255,257,258,259,260,268,269,270,271,272,273,274,275,276,278,279,280,281,282,283,284,285,287,289,307,308,309].any (Nat.beq g)||Nat.ble 1048576 g
@[reducible] def T0:Ty:=.pair .bool (.int .i64)
@[reducible] def T1:Ty:=.pair .str T0
@[reducible] def T2:Ty:=.pair .str T1
@[reducible] def T3:Ty:=.pair (.int .i64) (.sl true T2)
@[reducible] def T4:Ty:=.pair (.int .i64) (.sl true (.sl true T3))
@[reducible] def T5:Ty:=.pair .str .bool
@[reducible] def T6:Ty:=.pair (.sl false (.int .i64)) (.int .i64)
@[reducible] def T7:Ty:=.pair (.sl true T5) T6
@[reducible] def T8:Ty:=.pair (.sl false (.int .i64)) T7
@[reducible] def T9:Ty:=.pair (.sl false (.sl true T2)) T8
@[reducible] def PJ:Ty:=.pair .bool T5
@[reducible] def qA:Ty:=.pair (.sl true T2) (.int .i64)
@[reducible] def qB:Ty:=.pair PJ qA
@[reducible] def IR:Ty:=.pair T9 qB
@[reducible] def Rp:Ty:=.pair (.int .i64) IR
@[reducible] def qC:Ty:=.pair (.sl true Rp) (.int .i64)
@[reducible] def Lg:Ty:=.pair T4 qC
@[reducible] def GV:Ty:=.pair T3 Lg
@[reducible] def mT:Ty:=.pair (.sl true T5) .unit
def jf:List (FuncId×Sg):=[]
theorem iM:TabOK Tryz.prog (AC pu jf):=ga _ _
def mU:List (Nat×Nat×Nat×An):=[(35,2,2,.loop { keep:=[0],kb:=[],pl:=[.slot 3 false (.int .i64),.slot 2 false .bool],ex:=[(.ret,[]),(.exit 0,[])],pay:=.unit })]
theorem qD (x:AG [(false,(.sl true T2))]):Ab Tryz.prog (AC pu jf) (AI mU) 3000 60 35 [(false,(.sl true T2))] [(false,.bool)] x=DK x:=by kernel_rfl
def jg:List (FuncId×Sg):=(35,⟨[(false,(.sl true T2))],[(false,.bool)],DK⟩)::jf
theorem iN:TabOK Tryz.prog (AC pu jg):=AE iM qD
def mV:List (Nat×Nat×Nat×An):=[(84,2,2,.loop { keep:=[0],kb:=[],pl:=[.slot 3 false (.int .i64),.slot 2 false .bool],ex:=[(.ret,[]),(.exit 0,[])],pay:=.unit })]
theorem qE (x:AG [(false,(.sl true T2))]):Ab Tryz.prog (AC pu jg) (AI mV) 3000 60 84 [(false,(.sl true T2))] [(false,.bool)] x=Ck x:=by kernel_rfl
def jh:List (FuncId×Sg):=(84,⟨[(false,(.sl true T2))],[(false,.bool)],Ck⟩)::jg
theorem iO:TabOK Tryz.prog (AC pu jh):=AE iN qE
def kT:List (Nat×Nat×Nat×An):=[(165,2,2,.loop { keep:=[0],kb:=[],pl:=[.slot 3 false (.int .i64),.slot 2 false .bool],ex:=[(.ret,[]),(.exit 0,[])],pay:=.unit })]
theorem mW (x:AG [(false,(.sl true T3))]):Ab Tryz.prog (AC pu jh) (AI kT) 3000 60 165 [(false,(.sl true T3))] [(false,.bool)] x=Cv x:=by kernel_rfl
def ji:List (FuncId×Sg):=(165,⟨[(false,(.sl true T3))],[(false,.bool)],Cv⟩)::jh
theorem iQ:TabOK Tryz.prog (AC pu ji):=AE iO mW
def mX:List (Nat×Nat×Nat×An):=[(85,2,3,.loop { keep:=[0,1],kb:=[0],pl:=[.slot 3 false (.int .i64),.slot 2 false .bool],ex:=[(.ret,[]),(.exit 0,[])],pay:=.unit })]
theorem qF (x:AG [(true,T4)]):Ab Tryz.prog (AC pu ji) (AI mX) 3000 60 85 [(true,T4)] [(false,.bool)] x=GL x:=by kernel_rfl
def jj:List (FuncId×Sg):=(85,⟨[(true,T4)],[(false,.bool)],GL⟩)::ji
theorem iR:TabOK Tryz.prog (AC pu jj):=AE iQ qF
def mY:List (Nat×Nat×Nat×An):=[(22,2,3,.loop { keep:=[0,1],kb:=[0],pl:=[.slot 3 false (.int .i64),.slot 2 false .bool],ex:=[(.exit 0,[]),(.ret,[])],pay:=.unit }),(22,6,21,.loop { keep:=[0,1,3,7,11,19,9,17,13,21,4,8,12,20,6,10,18,14,22],kb:=[0,18],pl:=[.slot 5 false (.int .i64),.slot 2 false .bool],ex:=[(.ret,[]),(.exit 2,[])],pay:=.unit })]
theorem qG (x:AG [(true,Lg)]):Ab Tryz.prog (AC pu jj) (AI mY) 3000 60 22 [(true,Lg)] [(false,.bool)] x=GM x:=by kernel_rfl
def jk:List (FuncId×Sg):=(22,⟨[(true,Lg)],[(false,.bool)],GM⟩)::jj
theorem iS:TabOK Tryz.prog (AC pu jk):=AE iR qG
theorem qH (x:AG [(true,GV)]):Ab Tryz.prog (AC pu jk) (AI []) 3000 60 45 [(true,GV)] [(false,.bool)] x=GO x:=by kernel_rfl
def jl:List (FuncId×Sg):=(45,⟨[(true,GV)],[(false,.bool)],GO⟩)::jk
theorem iT:TabOK Tryz.prog (AC pu jl):=AE iS qH
theorem mZ (x:AG [(false,(.int .i64))]):Ab Tryz.prog (AC pu jl) (AI []) 3000 60 125 [(false,(.int .i64))] [(true,T3),(false,(.int .i64))] x=HM x:=by kernel_rfl
def jm:List (FuncId×Sg):=(125,⟨[(false,(.int .i64))],[(true,T3),(false,(.int .i64))],HM⟩)::jl
theorem iU:TabOK Tryz.prog (AC pu jm):=AE iT mZ
theorem ma (x:AG [(false,(.int .i64))]):Ab Tryz.prog (AC pu jm) (AI []) 3000 60 200 [(false,(.int .i64))] [(true,T4),(false,(.int .i64))] x=HN x:=by kernel_rfl
def jo:List (FuncId×Sg):=(200,⟨[(false,(.int .i64))],[(true,T4),(false,(.int .i64))],HN⟩)::jm
theorem iV:TabOK Tryz.prog (AC pu jo):=AE iU ma
theorem mb (x:AG [(false,(.int .i64))]):Ab Tryz.prog (AC pu jo) (AI []) 3000 60 126 [(false,(.int .i64))] [(true,Lg),(false,(.int .i64))] x=JP x:=by kernel_rfl
def jp:List (FuncId×Sg):=(126,⟨[(false,(.int .i64))],[(true,Lg),(false,(.int .i64))],JP⟩)::jo
theorem iW:TabOK Tryz.prog (AC pu jp):=AE iV mb
theorem qI (x:AG [(false,(.int .i64))]):Ab Tryz.prog (AC pu jp) (AI []) 3000 60 47 [(false,(.int .i64))] [(true,GV),(false,(.int .i64))] x=Dp x:=by kernel_rfl
def ay:List (FuncId×Sg):=(47,⟨[(false,(.int .i64))],[(true,GV),(false,(.int .i64))],Dp⟩)::jp
theorem az:TabOK Tryz.prog (AC pu ay):=AE iW qI
theorem mc (x:AG [(false,.str)]):Ab Tryz.prog (AC pu ay) (AI []) 3000 60 235 [(false,.str)] [(false,(.int .i64))] x=E3 x:=by kernel_rfl
def bA:List (FuncId×Sg):=(235,⟨[(false,.str)],[(false,(.int .i64))],E3⟩)::ay
theorem bB:TabOK Tryz.prog (AC pu bA):=AE az mc
theorem md (x:AG [(true,T2)]):Ab Tryz.prog (AC pu bA) (AI []) 3000 60 204 [(true,T2)] [(false,(.int .i64))] x=Ar x:=by kernel_rfl
def bC:List (FuncId×Sg):=(204,⟨[(true,T2)],[(false,(.int .i64))],Ar⟩)::bA
theorem bD:TabOK Tryz.prog (AC pu bC):=AE bB md
def kU:List (Nat×Nat×Nat×An):=[(202,6,23,.loop { keep:=[0,1,7,15,23,11,19,9,17,25,13,21,8,16,24,12,20,10,18,14,22],kb:=[0],pl:=[.slot 3 false (.int .i64),.slot 2 false (.int .i64),.slot 26 false (.int .i64)],ex:=[(.ret,[]),(.exit 1,[])],pay:=.unit })]
theorem me (x:AG [(true,T3)]):Ab Tryz.prog (AC pu bC) (AI kU) 3000 60 202 [(true,T3)] [(false,(.int .i64)),(false,(.int .i64))] x=BM x:=by kernel_rfl
def bE:List (FuncId×Sg):=(202,⟨[(true,T3)],[(false,(.int .i64)),(false,(.int .i64))],BM⟩)::bC
theorem bF:TabOK Tryz.prog (AC pu bE):=AE bD me
end Go.Proofs.YthpkjfabdccpdaaGreat.Pt
