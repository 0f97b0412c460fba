/- The evaluator comes to each of the plain functions. No condition. -/
import Derived.Test.YthpkjfabdccpdaaGreatPl2
import Derived.Test.YthpkjfabdccpdaaGreatProg
set_option linter.all false
namespace Go.Proofs.YthpkjfabdccpdaaGreat.Pt
open Go Go.Proofs.YthpkjfabdccpdaaGreat.Sv Go.Proofs.YthpkjfabdccpdaaGreat.Pl
set_option maxRecDepth 1000000
set_option linter.unusedVariables false
def pu (g:Nat):Bool:=[2,3,4,5,6,7,8,9,10,11,12,13,14,15,16,17,18,19,20,21,22,23,24,25,26,27,28,29,30,31,32,33,34,35,36,37,38,39,40,41,43,44,45,46,47,48,49,50,51,52,53,54,55,56,57,58,59,60,61,62,63,64,65,66,67,68,69,70,71,72,73,74,75,78,79,81,82,83,84,85,86,87,88,89,90,91,92,93,94,95,96,98,99,100,101,102,103,104,105,106,107,108,109,110,111,112,113,114,115,116,117,118,119,120,121,122,124,125,126,127,128,129,132,135,136,138,140,142,143,144,147,148,149,151,153,154,155,156,157,158,164,165,166,167,168,169,171,172,173,174,175,176,177,180,181,182,183,184,185,186,187,188,189,190,191,192,193,194,195,196,197,198,200,201,202,203,204,205,206,207,208,209,213,214,215,220,222,223,224,225,226,227,228,229,230,231,232,233,234,235,236,237,239,240,241,242,243,244,245,246,248,249,250,251,254,255,257,258,259,260,268,269,270,271,272,273,274,275,276,278,279,280,281,282,283,284,285,287,289,307,308,309].any (Nat.beq g)||Nat.ble 1048576 g
@[reducible] def T0:Ty:=.pair .bool (.int .i64)
@[reducible] def T1:Ty:=.pair .str T0
@[reducible] def T2:Ty:=.pair .str T1
@[reducible] def T3:Ty:=.pair (.int .i64) (.sl true T2)
@[reducible] def T4:Ty:=.pair (.int .i64) (.sl true (.sl true T3))
@[reducible] def T5:Ty:=.pair .str .bool
@[reducible] def T6:Ty:=.pair (.sl false (.int .i64)) (.int .i64)
@[reducible] def T7:Ty:=.pair (.sl true T5) T6
@[reducible] def T8:Ty:=.pair (.sl false (.int .i64)) T7
@[reducible] def T9:Ty:=.pair (.sl false (.sl true T2)) T8
@[reducible] def Og:Ty:=.pair .bool T5
@[reducible] def mh:Ty:=.pair (.sl true T2) (.int .i64)
@[reducible] def mi:Ty:=.pair Og mh
@[reducible] def Ht:Ty:=.pair T9 mi
@[reducible] def gf:Ty:=.pair (.int .i64) Ht
@[reducible] def mj:Ty:=.pair (.sl true gf) (.int .i64)
@[reducible] def Hu:Ty:=.pair T4 mj
@[reducible] def Lz:Ty:=.pair T3 Hu
@[reducible] def ja:Ty:=.pair (.sl true T5) .unit
@[reducible] def ml:Ty:=.pair (.int .i64) (.int .i64)
@[reducible] def mo:Ty:=.pair (.int .i64) ml
@[reducible] def mq:Ty:=.pair (.int .i64) mo
@[reducible] def mr:Ty:=.pair Lz mq
@[reducible] def jc:Ty:=.pair mr .unit
def gO:List (FuncId×Sg):=[]
theorem fA:TabOK Tryz.prog (AB pu gO):=eL _ _
def jd:List (Nat×Nat×Nat×An):=[(63,3,4,.loop { keep:=[0,1],kb:=[0],pl:=[.slot 3 false (.int .i64),.slot 2 false .bool,.slot 4 false (.int .i64)],ex:=[(.exit 0,[]),(.ret,[])],pay:=.unit }),(63,6,15,.loop { keep:=[0,1,15,19,17,13,21,4,16,12,20,18,14],kb:=[0],pl:=[.slot 3 false (.int .i64),.slot 5 false (.int .i64),.slot 2 false .bool],ex:=[(.exit 2,[]),(.ret,[])],pay:=.unit }),(63,11,47,.loop { keep:=[0,1,3,15,31,47,19,35,51,27,43,5,17,33,49,25,41,13,21,37,53,29,45,4,16,32,48,24,40,12,20,36,52,28,44,6,18,34,50,26,42,14,54,30,46],kb:=[0],pl:=[.slot 7 false (.int .i64),.slot 2 false .bool],ex:=[(.ret,[]),(.exit 4,[])],pay:=.unit }),(63,18,5,.loop { keep:=[0,1,3,4],kb:=[0],pl:=[.slot 2 false .bool,.slot 8 false (.int .i64)],ex:=[(.ret,[]),(.exit 6,[])],pay:=.unit }),(63,25,55,.loop { keep:=[0,1,3,127,95,111,135,103,119,131,115,107,91,123,9,129,97,113,137,105,121,133,101,117,109,93,125,2,4,8,128,96,112,136,104,120,132,116,108,92,124,130,98,114,106,90,122,134,102,118,110,94,126],kb:=[0,20],pl:=[.slot 11 false (.int .i64),.slot 10 false (.int .i64)],ex:=[(.exit 8,[])],pay:=.unit })]
theorem mt (x:AE [(true,Hu)]):Ab Tryz.prog (AB pu gO) (AI jd) 3000 60 63 [(true,Hu)] [(false,.bool)] x=Gb x:=by kernel_rfl
def gP:List (FuncId×Sg):=(63,⟨[(true,Hu)],[(false,.bool)],Gb⟩)::gO
theorem fB:TabOK Tryz.prog (AB pu gP):=AD fA mt
def je:List (Nat×Nat×Nat×An):=[(15,2,3,.loop { keep:=[0,1],kb:=[0],pl:=[.slot 3 false (.int .i64),.slot 2 false .bool],ex:=[(.ret,[]),(.exit 0,[])],pay:=.unit })]
theorem mu (x:AE [(true,Lz)]):Ab Tryz.prog (AB pu gP) (AI je) 3000 60 15 [(true,Lz)] [(false,.bool)] x=Gc x:=by kernel_rfl
def gQ:List (FuncId×Sg):=(15,⟨[(true,Lz)],[(false,.bool)],Gc⟩)::gP
theorem fC:TabOK Tryz.prog (AB pu gQ):=AD fB mu
def iB:List (Nat×Nat×Nat×An):=[(154,4,10,.loop { keep:=[0,1,7,11,9,13,8,12,10,14],kb:=[],pl:=[.slot 15 false (.int .i64),.slot 4 false .bool],ex:=[(.ret,[]),(.exit 0,[])],pay:=.unit })]
theorem jf (x:AE [(false,(.int .i64)),(false,(.sl false (.int .i64)))]):Ab Tryz.prog (AB pu gQ) (AI iB) 3000 60 154 [(false,(.int .i64)),(false,(.sl false (.int .i64)))] [(false,.bool)] x=Co x:=by kernel_rfl
def gR:List (FuncId×Sg):=(154,⟨[(false,(.int .i64)),(false,(.sl false (.int .i64)))],[(false,.bool)],Co⟩)::gQ
theorem fD:TabOK Tryz.prog (AB pu gR):=AD fC jf
def jg:List (Nat×Nat×Nat×An):=[(72,7,12,.loop { keep:=[0,1,15,11,5,9,13,4,8,12,10,14],kb:=[],pl:=[.slot 7 false (.int .i64),.slot 6 false (.int .i64)],ex:=[(.exit 0,[])],pay:=.unit })]
theorem mv (x:AE [(false,(.int .i64)),(false,(.int .i64))]):Ab Tryz.prog (AB pu gR) (AI jg) 3000 60 72 [(false,(.int .i64)),(false,(.int .i64))] [(false,(.int .i64)),(false,(.int .i64))] x=CV x:=by kernel_rfl
def gS:List (FuncId×Sg):=(72,⟨[(false,(.int .i64)),(false,(.int .i64))],[(false,(.int .i64)),(false,(.int .i64))],CV⟩)::gR
theorem fE:TabOK Tryz.prog (AB pu gS):=AD fD mv
theorem mw (x:AE [(false,(.int .i64)),(false,(.int .i64))]):Ab Tryz.prog (AB pu gS) (AI []) 3000 60 73 [(false,(.int .i64)),(false,(.int .i64))] [(false,(.int .i64)),(false,(.int .i64))] x=Hq x:=by kernel_rfl
def gT:List (FuncId×Sg):=(73,⟨[(false,(.int .i64)),(false,(.int .i64))],[(false,(.int .i64)),(false,(.int .i64))],Hq⟩)::gS
theorem fF:TabOK Tryz.prog (AB pu gT):=AD fE mw
theorem my (x:AE [(false,(.int .i64)),(false,(.int .i64)),(false,(.int .i64))]):Ab Tryz.prog (AB pu gT) (AI []) 3000 60 74 [(false,(.int .i64)),(false,(.int .i64)),(false,(.int .i64))] [(false,(.int .i64)),(false,(.int .i64))] x=HI x:=by kernel_rfl
def gU:List (FuncId×Sg):=(74,⟨[(false,(.int .i64)),(false,(.int .i64)),(false,(.int .i64))],[(false,(.int .i64)),(false,(.int .i64))],HI⟩)::gT
theorem fG:TabOK Tryz.prog (AB pu gU):=AD fF my
theorem jh (x:AE [(false,.str),(false,(.int .i64)),(false,.bool)]):Ab Tryz.prog (AB pu gU) (AI []) 3000 60 156 [(false,.str),(false,(.int .i64)),(false,.bool)] [(true,T2)] x=DJ x:=by kernel_rfl
def gV:List (FuncId×Sg):=(156,⟨[(false,.str),(false,(.int .i64)),(false,.bool)],[(true,T2)],DJ⟩)::gU
theorem fH:TabOK Tryz.prog (AB pu gV):=AD fG jh
theorem ji (x:AE [(false,(.int .i64)),(false,(.sl true T2))]):Ab Tryz.prog (AB pu gV) (AI []) 3000 60 155 [(false,(.int .i64)),(false,(.sl true T2))] [(true,T3)] x=C6 x:=by kernel_rfl
def gW:List (FuncId×Sg):=(155,⟨[(false,(.int .i64)),(false,(.sl true T2))],[(true,T3)],C6⟩)::gV
theorem fI:TabOK Tryz.prog (AB pu gW):=AD fH ji
def iC:List (Nat×Nat×Nat×An):=[(188,2,2,.loop { keep:=[1,4],kb:=[],pl:=[.slot 0 false (.int .i64),.slot 5 false (.int .i64)],ex:=[(.exit 0,[])],pay:=.unit })]
theorem jj (x:AE [(false,(.int .i64)),(false,(.int .i64))]):Ab Tryz.prog (AB pu gW) (AI iC) 3000 60 188 [(false,(.int .i64)),(false,(.int .i64))] [(false,(.int .i64))] x=Do x:=by kernel_rfl
def gX:List (FuncId×Sg):=(188,⟨[(false,(.int .i64)),(false,(.int .i64))],[(false,(.int .i64))],Do⟩)::gW
theorem fJ:TabOK Tryz.prog (AB pu gX):=AD fI jj
theorem jk (x:AE [(true,T2)]):Ab Tryz.prog (AB pu gX) (AI []) 3000 60 203 [(true,T2)] [(false,(.int .i64))] x=Cc x:=by kernel_rfl
def ZO:List (FuncId×Sg):=(203,⟨[(true,T2)],[(false,(.int .i64))],Cc⟩)::gX
theorem ZP:TabOK Tryz.prog (AB pu ZO):=AD fJ jk
def iD:List (Nat×Nat×Nat×An):=[(249,2,2,.loop { keep:=[0,1,4],kb:=[],pl:=[.slot 5 false (.int .i64)],ex:=[(.exit 0,[])],pay:=.unit })]
theorem jl (x:AE [(false,.str),(false,.str)]):Ab Tryz.prog (AB pu ZO) (AI iD) 3000 60 249 [(false,.str),(false,.str)] [(false,(.int .i64))] x=EU x:=by kernel_rfl
def ZQ:List (FuncId×Sg):=(249,⟨[(false,.str),(false,.str)],[(false,(.int .i64))],EU⟩)::ZO
theorem ZR:TabOK Tryz.prog (AB pu ZQ):=AD ZP jl
theorem jm (x:AE [(false,.str),(false,.str)]):Ab Tryz.prog (AB pu ZQ) (AI []) 3000 60 225 [(false,.str),(false,.str)] [(false,(.int .i64))] x=D5 x:=by kernel_rfl
def ZS:List (FuncId×Sg):=(225,⟨[(false,.str),(false,.str)],[(false,(.int .i64))],D5⟩)::ZQ
theorem ZT:TabOK Tryz.prog (AB pu ZS):=AD ZR jm
def iE:List (Nat×Nat×Nat×An):=[(185,4,6,.loop { keep:=[0,7,8,6],kb:=[],pl:=[.slot 3 false (.int .i64),.slot 2 false (.int .i64),.slot 4 false (.int .i64)],ex:=[(.ret,[]),(.exit 0,[])],pay:=.unit })]
theorem jo (x:AE [(false,(.sl true T2))]):Ab Tryz.prog (AB pu ZS) (AI iE) 3000 60 185 [(false,(.sl true T2))] [(false,(.int .i64)),(false,(.int .i64))] x=CS x:=by kernel_rfl
def ZU:List (FuncId×Sg):=(185,⟨[(false,(.sl true T2))],[(false,(.int .i64)),(false,(.int .i64))],CS⟩)::ZS
theorem ZV:TabOK Tryz.prog (AB pu ZU):=AD ZT jo
end Go.Proofs.YthpkjfabdccpdaaGreat.Pt
