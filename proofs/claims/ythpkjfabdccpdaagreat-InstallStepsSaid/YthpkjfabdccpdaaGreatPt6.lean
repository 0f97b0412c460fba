/- The evaluator comes to each of the plain functions. No condition. -/
import Derived.Test.YthpkjfabdccpdaaGreatPt5
set_option linter.all false
namespace Go.Proofs.YthpkjfabdccpdaaGreat.Pt
open Go Go.Proofs.YthpkjfabdccpdaaGreat.Sv Go.Proofs.YthpkjfabdccpdaaGreat.Pl
set_option maxRecDepth 1000000
set_option linter.unusedVariables false
theorem nR (x:AG [(false,(.sl true T2)),(false,(.sl true T2))]):AZ Tryz.prog (AC pu eG) (AH []) 3000 60 222 [(false,(.sl true T2)),(false,(.sl true T2))] [(false,.bool)] x=Bp x:=by kernel_rfl
def eJ:List (FuncId×Sg):=(222,⟨[(false,(.sl true T2)),(false,(.sl true T2))],[(false,.bool)],Bp⟩)::eG
theorem eK:TabOK Tryz.prog (AC pu eJ):=AF eI nR
def kV:List (Nat×Nat×Nat×An):=[(221,4,81,.loop { keep:=[0,1,15,11,13,2,16,12,10,14],kb:=[0,1,7,8],pl:=[.slot 17 false (.int .i64),.slot 6 false .bool],ex:=[(.ret,[]),(.exit 0,[])],pay:=.unit })]
theorem nS (x:AG [(true,IK),(true,IK)]):AZ Tryz.prog (AC pu eJ) (AH kV) 3000 60 183 [(true,IK),(true,IK)] [(false,.bool)] x=DJ x:=by kernel_rfl
def eL:List (FuncId×Sg):=(183,⟨[(true,IK),(true,IK)],[(false,.bool)],DJ⟩)::eJ
theorem eM:TabOK Tryz.prog (AC pu eL):=AF eK nS
def kW:List (Nat×Nat×Nat×An):=[(219,1,52,.loop { keep:=[0,1,7,5,6],kb:=[0,47,35,46],pl:=[.slot 8 false (.int .i64),.box 43 [.ow false (.int .i64) false]],ex:=[(.exit 0,[(47,0,none)])],pay:=.unit }),(107,10,59,.loop { keep:=[0,1,15,31,47,23,39,19,35,27,43,17,33,25,41,21,37,29,45,4,16,32,40,20,36,28,44,18,34,26,42,14,22,38,30,46],kb:=[0,47,35,43,52],pl:=[.slot 3 false (.int .i64),.slot 2 false (.int .i64),.slot 48 false (.int .i64)],ex:=[(.ret,[(47,3,none)]),(.exit 1,[(47,3,none)])],pay:=.unit })]
theorem nT (x:AG [(true,C9)]):AZ Tryz.prog (AC pu eL) (AH kW) 3000 60 107 [(true,C9)] [(false,(.int .i64)),(false,(.int .i64))] x=DK x:=by kernel_rfl
def eN:List (FuncId×Sg):=(107,⟨[(true,C9)],[(false,(.int .i64)),(false,(.int .i64))],DK⟩)::eL
theorem eO:TabOK Tryz.prog (AC pu eN):=AF eM nT
def kX:List (Nat×Nat×Nat×An):=[(238,2,31,.loop { keep:=[0,1,7,6],kb:=[0,1],pl:=[.slot 4 false (.int .i64),.slot 8 false (.int .i64)],ex:=[(.ret,[]),(.exit 0,[])],pay:=.unit })]
theorem nU (x:AG [(true,C9),(false,(.int .i64))]):AZ Tryz.prog (AC pu eN) (AH kX) 3000 60 151 [(true,C9),(false,(.int .i64))] [(false,(.int .i64)),(false,(.int .i64))] x=Fp x:=by kernel_rfl
def eP:List (FuncId×Sg):=(151,⟨[(true,C9),(false,(.int .i64))],[(false,(.int .i64)),(false,(.int .i64))],Fp⟩)::eN
theorem eQ:TabOK Tryz.prog (AC pu eP):=AF eO nU
theorem pG (x:AG [(true,C9),(false,(.int .i64))]):AZ Tryz.prog (AC pu eP) (AH []) 3000 60 88 [(true,C9),(false,(.int .i64))] [(true,Wr),(false,(.int .i64))] x=Cr x:=by kernel_rfl
def eR:List (FuncId×Sg):=(88,⟨[(true,C9),(false,(.int .i64))],[(true,Wr),(false,(.int .i64))],Cr⟩)::eP
theorem eU:TabOK Tryz.prog (AC pu eR):=AF eQ pG
theorem pH (x:AG [(true,Wr)]):AZ Tryz.prog (AC pu eR) (AH []) 3000 60 89 [(true,Wr)] [(false,.bool)] x=A2 x:=by kernel_rfl
def eV:List (FuncId×Sg):=(89,⟨[(true,Wr)],[(false,.bool)],A2⟩)::eR
theorem eW:TabOK Tryz.prog (AC pu eV):=AF eU pH
theorem pI (x:AG [(false,(.int .i64)),(false,(.int .i64))]):AZ Tryz.prog (AC pu eV) (AH []) 3000 60 44 [(false,(.int .i64)),(false,(.int .i64))] [(false,(.int .i64)),(false,(.int .i64))] x=FU x:=by kernel_rfl
def eX:List (FuncId×Sg):=(44,⟨[(false,(.int .i64)),(false,(.int .i64))],[(false,(.int .i64)),(false,(.int .i64))],FU⟩)::eV
theorem eY:TabOK Tryz.prog (AC pu eX):=AF eW pI
theorem pJ (x:AG [(true,Wr)]):AZ Tryz.prog (AC pu eX) (AH []) 3000 60 92 [(true,Wr)] [(false,.bool)] x=BK x:=by kernel_rfl
def eZ:List (FuncId×Sg):=(92,⟨[(true,Wr)],[(false,.bool)],BK⟩)::eX
theorem ec:TabOK Tryz.prog (AC pu eZ):=AF eY pJ
theorem nV (x:AG [(true,T4),(false,(.int .i64))]):AZ Tryz.prog (AC pu eZ) (AH []) 3000 60 169 [(true,T4),(false,(.int .i64))] [(false,(.int .i64))] x=Eo x:=by kernel_rfl
def ef:List (FuncId×Sg):=(169,⟨[(true,T4),(false,(.int .i64))],[(false,(.int .i64))],Eo⟩)::eZ
theorem eh:TabOK Tryz.prog (AC pu ef):=AF ec nV
theorem nX (x:AG [(true,T4),(false,(.int .i64))]):AZ Tryz.prog (AC pu ef) (AH []) 3000 60 108 [(true,T4),(false,(.int .i64))] [(false,.bool),(false,(.int .i64))] x=FV x:=by kernel_rfl
def ei:List (FuncId×Sg):=(108,⟨[(true,T4),(false,(.int .i64))],[(false,.bool),(false,(.int .i64))],FV⟩)::ef
theorem ej:TabOK Tryz.prog (AC pu ei):=AF eh nX
theorem nY (x:AG [(true,Wr)]):AZ Tryz.prog (AC pu ei) (AH []) 3000 60 168 [(true,Wr)] [(false,.bool)] x=Cc x:=by kernel_rfl
def eu:List (FuncId×Sg):=(168,⟨[(true,Wr)],[(false,.bool)],Cc⟩)::ei
theorem ew:TabOK Tryz.prog (AC pu eu):=AF ej nY
def nZ:List (Nat×Nat×Nat×An):=[(90,2,11,.loop { keep:=[0,1,7,11,5,9,8,12,6,10],kb:=[0],pl:=[.slot 13 false (.int .i64),.slot 2 false .bool],ex:=[(.ret,[]),(.exit 0,[])],pay:=.unit })]
theorem pK (x:AG [(true,Wr)]):AZ Tryz.prog (AC pu eu) (AH nZ) 3000 60 90 [(true,Wr)] [(false,.bool)] x=Bq x:=by kernel_rfl
def ez:List (FuncId×Sg):=(90,⟨[(true,Wr)],[(false,.bool)],Bq⟩)::eu
theorem e8:TabOK Tryz.prog (AC pu ez):=AF ew pK
theorem na:LP Tryz.prog (λf => !pu f) 1000 100 176=true:=by kernel_rfl
theorem ng (a:Ty.den IL) (l:List (Ty.den IL)):AZ Tryz.prog (AC pu ez) (AH []) 3000 60 176 [(false,(.sl true IL))] [(false,(.sl true IL))] (a::l)=BV (a::l):=by kernel_rfl
def e9:List (FuncId×Sg):=(176,⟨[(false,(.sl true IL))],[(false,(.sl true IL))],BV⟩)::ez
theorem fA:TabOK Tryz.prog (AC pu e9):=MH (gg:=true) (c:=IL) e8 na rfl ng
theorem nh:NB Tryz.prog (λf => !pu f) 1000 100 176=true:=by kernel_rfl
theorem ni (a:Ty.den IL) (l:List (Ty.den IL)):OY Tryz.prog (AC pu e9) (AH []) 3000 60 176 [(false,(.sl true IL))] true IL (a::l)=BV (a::l):=by kernel_rfl
def fB:List (FuncId×Sg):=(176+Fu,⟨[(false,(.sl true IL))],[(false,(.sl true IL))],BV⟩)::e9
theorem fC:TabOK Tryz.prog (AC pu fB):=MI (gg:=true) (c:=IL) fA nh rfl (λa l y h=>MJ h) ni
end Go.Proofs.YthpkjfabdccpdaaGreat.Pt
