/- The evaluator comes to each of the plain functions. No condition. -/
import Derived.Test.YthpkjfabdccpdaaGreatPt4
set_option linter.all false
namespace Go.Proofs.YthpkjfabdccpdaaGreat.Pt
open Go Go.Proofs.YthpkjfabdccpdaaGreat.Sv Go.Proofs.YthpkjfabdccpdaaGreat.Pl
set_option maxRecDepth 1000000
set_option linter.unusedVariables false
theorem nC (x:AG [(false,(.int .i64)),(false,(.int .i64)),(true,lR)]):WJ Tryz.prog (AC pu dZ) (AH []) 3000 60 290 [(false,(.int .i64)),(false,(.int .i64)),(true,lR)] [(false,.bool)] x=Bf x:=by kernel_rfl
def db:List (FuncId×Sg):=(3146018,⟨[(false,(.int .i64)),(false,(.int .i64)),(true,lR)],[(false,.bool)],Bf⟩)::dZ
theorem de:TabOK Tryz.prog (AC pu db):=gR (f:=290) da nC
def kM:List (Nat×Nat×Nat×An):=[(279,13,63,.loop { keep:=[0,1,3,7,31,63,47,55,11,19,35,51,27,43,59,9,17,33,49,25,41,57,13,21,37,53,29,45,61,2,4,8,32,48,24,40,56,12,20,36,52,28,44,60,6,18,34,50,26,42,58,14,38,54,30,46,62],kb:=[0,1,33,52],pl:=[.slot 5 false (.int .i64),.slot 10 false (.int .i64),.box 2 [.kp 33,.ow false (.int .i64) false,.lf (.int .i64)]],ex:=[(.exit 0,[])],pay:=.unit })]
theorem nD (x:AG [(true,T7),(true,T5)]):AZ Tryz.prog (AC pu db) (AH kM) 3000 60 279 [(true,T7),(true,T5)] [(true,T7),(false,(.int .i64)),(false,(.int .i64))] x=CK x:=by kernel_rfl
def dg:List (FuncId×Sg):=(279,⟨[(true,T7),(true,T5)],[(true,T7),(false,(.int .i64)),(false,(.int .i64))],CK⟩)::db
theorem dh:TabOK Tryz.prog (AC pu dg):=AF de nD
def kN:List (Nat×Nat×Nat×An):=[(277,0,45,.loop { keep:=[0,1],kb:=[39,35,43,9,13,44],pl:=[.box 0 [.ow true T2 false],.box 1 [.ow false (.int .i64) false]],ex:=[(.ret,[(44,0,none)])],pay:=.unit }),(256,3,47,.loop { keep:=[0,1,11,13,4,12,10,14],kb:=[0,1,39,27,13,30],pl:=[.slot 15 false (.int .i64),.srow 5 true T5 true],ex:=[(.exit 0,[])],pay:=.unit }),(277,0,72,.loop { keep:=[0,1],kb:=[47,39,71,9,13,53,66,70,30],pl:=[.box 0 [.ow true T2 false],.box 1 [.ow false (.int .i64) false],.box 62 [.kp 30,.ow false (.int .i64) true,.lf (.sl true T5),.lf (.sl false (.int .i64)),.lf (.int .i64)]],ex:=[(.ret,[(71,0,none)])],pay:=.unit })]
theorem nE (x:AG [(false,(.sl false (.sl true T2)))]):AZ Tryz.prog (AC pu dg) (AH kN) 3000 60 241 [(false,(.sl false (.sl true T2)))] [(false,(.sl true T2)),(false,(.sl false (.int .i64))),(false,(.int .i64))] x=G1 x:=by kernel_rfl
def di:List (FuncId×Sg):=(241,⟨[(false,(.sl false (.sl true T2)))],[(false,(.sl true T2)),(false,(.sl false (.int .i64))),(false,(.int .i64))],G1⟩)::dg
theorem dj:TabOK Tryz.prog (AC pu di):=AF dh nE
theorem nF (x:AG [(true,PP)]):AZ Tryz.prog (AC pu di) (AH []) 3000 60 280 [(true,PP)] [(false,(.int .i64))] x=Dp x:=by kernel_rfl
def dk:List (FuncId×Sg):=(280,⟨[(true,PP)],[(false,(.int .i64))],Dp⟩)::di
theorem dl:TabOK Tryz.prog (AC pu dk):=AF dj nF
theorem nG (x:AG [(true,T2)]):AZ Tryz.prog (AC pu dk) (AH []) 3000 60 307 [(true,T2)] [(true,T2)] x=A8 x:=by kernel_rfl
def dm:List (FuncId×Sg):=(307,⟨[(true,T2)],[(true,T2)],A8⟩)::dk
theorem dq:TabOK Tryz.prog (AC pu dm):=AF dl nG
def kO:List (Nat×Nat×Nat×An):=[(262,5,24,.loop { keep:=[0,1,15,19,17,2,8,16,20,18,14],kb:=[],pl:=[.slot 7 false (.int .i64),.slot 21 false (.int .i64),.slot 6 false (.int .i64),.box 19 [.lf .bool,.lf .str,.lf .bool],.box 0 [.ow true T2 false]],ex:=[(.ret,[]),(.exit 0,[])],pay:=.unit })]
theorem nH (x:AG [(false,(.sl true T2)),(false,.bool)]):AZ Tryz.prog (AC pu dm) (AH kO) 3000 60 242 [(false,(.sl true T2)),(false,.bool)] [(false,(.sl true T2)),(false,(.int .i64)),(false,(.int .i64))] x=EG x:=by kernel_rfl
def dt:List (FuncId×Sg):=(242,⟨[(false,(.sl true T2)),(false,.bool)],[(false,(.sl true T2)),(false,(.int .i64)),(false,(.int .i64))],EG⟩)::dm
theorem du:TabOK Tryz.prog (AC pu dt):=AF dq nH
def kP:List (Nat×Nat×Nat×An):=[(244,4,9,.loop { keep:=[0,1,7,11,9,13,8,12,10],kb:=[],pl:=[.slot 4 false .bool,.slot 14 false (.int .i64)],ex:=[(.ret,[]),(.exit 0,[])],pay:=.unit })]
theorem nI (x:AG [(false,(.sl true T2)),(false,(.sl true T2))]):AZ Tryz.prog (AC pu dt) (AH kP) 3000 60 244 [(false,(.sl true T2)),(false,(.sl true T2))] [(false,.bool)] x=Dq x:=by kernel_rfl
def dv:List (FuncId×Sg):=(244,⟨[(false,(.sl true T2)),(false,(.sl true T2))],[(false,.bool)],Dq⟩)::dt
theorem dw:TabOK Tryz.prog (AC pu dv):=AF du nI
def kQ:List (Nat×Nat×Nat×An):=[(214,6,18,.loop { keep:=[0,1,3,15,23,19,17,25,21,2,4,16,24,20,18,26,14],kb:=[0],pl:=[.slot 27 false (.int .i64),.slot 5 false (.int .i64)],ex:=[(.exit 0,[])],pay:=.unit })]
theorem nJ (x:AG [(true,IK)]):AZ Tryz.prog (AC pu dv) (AH kQ) 3000 60 214 [(true,IK)] [(false,(.int .i64))] x=Eg x:=by kernel_rfl
def dx:List (FuncId×Sg):=(214,⟨[(true,IK)],[(false,(.int .i64))],Eg⟩)::dv
theorem dy:TabOK Tryz.prog (AC pu dx):=AF dw nJ
def kS:List (Nat×Nat×Nat×An):=[(215,6,17,.loop { keep:=[0,1,3,15,11,19,5,9,17,13,2,4,12,10,18,14],kb:=[0],pl:=[.slot 20 false (.int .i64),.slot 6 false (.int .i64)],ex:=[(.exit 0,[])],pay:=.unit })]
theorem nK (x:AG [(true,T9)]):AZ Tryz.prog (AC pu dx) (AH kS) 3000 60 215 [(true,T9)] [(false,(.int .i64)),(false,(.int .i64))] x=GB x:=by kernel_rfl
def dz:List (FuncId×Sg):=(215,⟨[(true,T9)],[(false,(.int .i64)),(false,(.int .i64))],GB⟩)::dx
theorem d6:TabOK Tryz.prog (AC pu dz):=AF dy nK
theorem nL (x:AG [(true,IK)]):AZ Tryz.prog (AC pu dz) (AH []) 3000 60 167 [(true,IK)] [(false,(.int .i64)),(false,(.int .i64))] x=Bi x:=by kernel_rfl
def d7:List (FuncId×Sg):=(167,⟨[(true,IK)],[(false,(.int .i64)),(false,(.int .i64))],Bi⟩)::dz
theorem d8:TabOK Tryz.prog (AC pu d7):=AF d6 nL
theorem nM (x:AG [(true,T9)]):AZ Tryz.prog (AC pu d7) (AH []) 3000 60 245 [(true,T9)] [(true,T2),(false,(.int .i64)),(true,T9),(false,(.int .i64))] x=B5 x:=by kernel_rfl
def d9:List (FuncId×Sg):=(245,⟨[(true,T9)],[(true,T2),(false,(.int .i64)),(true,T9),(false,(.int .i64))],B5⟩)::d7
theorem eA:TabOK Tryz.prog (AC pu d9):=AF d8 nM
theorem nN (x:AG [(true,PP),(true,T2)]):AZ Tryz.prog (AC pu d9) (AH []) 3000 60 246 [(true,PP),(true,T2)] [(false,.bool),(true,PP),(false,(.int .i64))] x=CA x:=by kernel_rfl
def eB:List (FuncId×Sg):=(246,⟨[(true,PP),(true,T2)],[(false,.bool),(true,PP),(false,(.int .i64))],CA⟩)::d9
theorem eC:TabOK Tryz.prog (AC pu eB):=AF eA nN
def kT:List (Nat×Nat×Nat×An):=[(216,2,81,.loop { keep:=[0,1,6],kb:=[0,1,39,67,68],pl:=[.slot 7 false (.int .i64),.slot 4 false (.int .i64),.box 28 [.lf (.sl false (.sl true T2)),.lf (.sl false (.int .i64)),.lf (.sl true T5),.lf (.sl false (.int .i64)),.lf (.int .i64),.lf .bool,.lf .str,.lf .bool,.ow true T2 false,.lf (.int .i64)]],ex:=[(.ret,[]),(.exit 0,[])],pay:=.unit }),(216,2,98,.loop { keep:=[0,1,6],kb:=[0,1,39,67,68,86],pl:=[.slot 7 false (.int .i64),.slot 4 false (.int .i64),.box 28 [.lf (.sl false (.sl true T2)),.lf (.sl false (.int .i64)),.lf (.sl true T5),.lf (.sl false (.int .i64)),.lf (.int .i64),.lf .bool,.lf .str,.lf .bool,.ow true T2 false,.lf (.int .i64)]],ex:=[(.ret,[]),(.exit 0,[])],pay:=.unit }),(216,2,133,.loop { keep:=[0,1,6],kb:=[0,1,39,67,68,86],pl:=[.slot 7 false (.int .i64),.slot 4 false (.int .i64),.box 28 [.lf (.sl false (.sl true T2)),.lf (.sl false (.int .i64)),.lf (.sl true T5),.lf (.sl false (.int .i64)),.lf (.int .i64),.lf .bool,.lf .str,.lf .bool,.ow true T2 false,.lf (.int .i64)]],ex:=[(.ret,[]),(.exit 0,[])],pay:=.unit }),(216,2,120,.loop { keep:=[0,1,6],kb:=[0,1,39,67,68,86],pl:=[.slot 7 false (.int .i64),.slot 4 false (.int .i64),.box 28 [.lf (.sl false (.sl true T2)),.lf (.sl false (.int .i64)),.lf (.sl true T5),.lf (.sl false (.int .i64)),.lf (.int .i64),.lf .bool,.lf .str,.lf .bool,.ow true T2 false,.lf (.int .i64)]],ex:=[(.ret,[]),(.exit 0,[])],pay:=.unit })]
theorem nO (x:AG [(true,IK),(false,(.int .i64))]):AZ Tryz.prog (AC pu eB) (AH kT) 3000 60 175 [(true,IK),(false,(.int .i64))] [(true,IK),(false,(.int .i64)),(false,(.int .i64))] x=Bz x:=by kernel_rfl
def eE:List (FuncId×Sg):=(175,⟨[(true,IK),(false,(.int .i64))],[(true,IK),(false,(.int .i64)),(false,(.int .i64))],Bz⟩)::eB
theorem eF:TabOK Tryz.prog (AC pu eE):=AF eC nO
def kU:List (Nat×Nat×Nat×An):=[(248,4,9,.loop { keep:=[0,1,7,11,9,8,12,6,10],kb:=[],pl:=[.slot 13 false (.int .i64),.slot 4 false .bool],ex:=[(.ret,[]),(.exit 0,[])],pay:=.unit })]
theorem nQ (x:AG [(false,(.sl true T2)),(false,(.sl true T2))]):AZ Tryz.prog (AC pu eE) (AH kU) 3000 60 248 [(false,(.sl true T2)),(false,(.sl true T2))] [(false,.bool)] x=BU x:=by kernel_rfl
def eG:List (FuncId×Sg):=(248,⟨[(false,(.sl true T2)),(false,(.sl true T2))],[(false,.bool)],BU⟩)::eE
theorem eI:TabOK Tryz.prog (AC pu eG):=AF eF nQ
end Go.Proofs.YthpkjfabdccpdaaGreat.Pt
