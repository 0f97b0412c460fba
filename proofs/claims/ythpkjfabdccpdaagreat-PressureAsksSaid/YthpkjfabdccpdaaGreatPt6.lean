/- The evaluator comes to each of the plain functions. No condition. -/
import Derived.Test.YthpkjfabdccpdaaGreatPt5
set_option linter.all false
namespace Go.Proofs.YthpkjfabdccpdaaGreat.Pt
open Go Go.Proofs.YthpkjfabdccpdaaGreat.Sv Go.Proofs.YthpkjfabdccpdaaGreat.Pl
set_option maxRecDepth 1000000
set_option linter.unusedVariables false
theorem oQ (x:AG [(false,(.int .i64))]):Ab Tryz.prog (AC pu eR) (AI []) 3000 60 127 [(false,(.int .i64))] [(true,T3),(false,(.int .i64))] x=H9 x:=by kernel_rfl
def eV:List (FuncId×Sg):=(127,⟨[(false,(.int .i64))],[(true,T3),(false,(.int .i64))],H9⟩)::eR
theorem eW:TabOK Tryz.prog (AC pu eV):=AE eU oQ
theorem oR (x:AG [(false,(.int .i64))]):Ab Tryz.prog (AC pu eV) (AI []) 3000 60 201 [(false,(.int .i64))] [(true,T4),(false,(.int .i64))] x=IA x:=by kernel_rfl
def eX:List (FuncId×Sg):=(201,⟨[(false,(.int .i64))],[(true,T4),(false,(.int .i64))],IA⟩)::eV
theorem eY:TabOK Tryz.prog (AC pu eX):=AE eW oR
theorem oS (x:AG [(false,(.int .i64))]):Ab Tryz.prog (AC pu eX) (AI []) 3000 60 128 [(false,(.int .i64))] [(true,Lg),(false,(.int .i64))] x=IB x:=by kernel_rfl
def eZ:List (FuncId×Sg):=(128,⟨[(false,(.int .i64))],[(true,Lg),(false,(.int .i64))],IB⟩)::eX
theorem ec:TabOK Tryz.prog (AC pu eZ):=AE eY oS
theorem qS (x:AG [(false,(.int .i64))]):Ab Tryz.prog (AC pu eZ) (AI []) 3000 60 48 [(false,(.int .i64))] [(true,GV),(false,(.int .i64))] x=G5 x:=by kernel_rfl
def ef:List (FuncId×Sg):=(48,⟨[(false,(.int .i64))],[(true,GV),(false,(.int .i64))],G5⟩)::eZ
theorem eh:TabOK Tryz.prog (AC pu ef):=AE ec qS
def oT:List (Nat×Nat×Nat×An):=[(40,2,2,.loop { keep:=[0,1],kb:=[],pl:=[.slot 5 false (.int .i64),.slot 4 false .bool],ex:=[(.ret,[]),(.exit 0,[])],pay:=.unit })]
theorem qT (x:AG [(false,(.sl true T2)),(false,(.sl true T2))]):Ab Tryz.prog (AC pu ef) (AI oT) 3000 60 40 [(false,(.sl true T2)),(false,(.sl true T2))] [(false,.bool)] x=Cw x:=by kernel_rfl
def ei:List (FuncId×Sg):=(40,⟨[(false,(.sl true T2)),(false,(.sl true T2))],[(false,.bool)],Cw⟩)::ef
theorem ej:TabOK Tryz.prog (AC pu ei):=AE eh qT
theorem oU (x:AG [(true,T3),(true,T3)]):Ab Tryz.prog (AC pu ei) (AI []) 3000 60 129 [(true,T3),(true,T3)] [(false,.bool)] x=HO x:=by kernel_rfl
def eu:List (FuncId×Sg):=(129,⟨[(true,T3),(true,T3)],[(false,.bool)],HO⟩)::ei
theorem ew:TabOK Tryz.prog (AC pu eu):=AE ej oU
theorem oV (x:AG [(true,T3),(true,T3)]):Ab Tryz.prog (AC pu eu) (AI []) 3000 60 124 [(true,T3),(true,T3)] [(false,.bool)] x=EF x:=by kernel_rfl
def ez:List (FuncId×Sg):=(124,⟨[(true,T3),(true,T3)],[(false,.bool)],EF⟩)::eu
theorem e8:TabOK Tryz.prog (AC pu ez):=AE ew oV
def oW:List (Nat×Nat×Nat×An):=[(43,4,7,.loop { keep:=[0,1,7,9,8,6,10],kb:=[],pl:=[.slot 5 false (.int .i64),.slot 4 false .bool],ex:=[(.ret,[]),(.exit 0,[])],pay:=.unit })]
theorem qU (x:AG [(false,(.sl true T3)),(false,(.sl true T3))]):Ab Tryz.prog (AC pu ez) (AI oW) 3000 60 43 [(false,(.sl true T3)),(false,(.sl true T3))] [(false,.bool)] x=Dn x:=by kernel_rfl
def fA:List (FuncId×Sg):=(43,⟨[(false,(.sl true T3)),(false,(.sl true T3))],[(false,.bool)],Dn⟩)::ez
theorem fB:TabOK Tryz.prog (AC pu fA):=AE e8 qU
def oX:List (Nat×Nat×Nat×An):=[(98,4,18,.loop { keep:=[0,1,3,7,15,11,19,9,17,13,2,8,16,12,6,10,18,14],kb:=[0,1],pl:=[.slot 5 false (.int .i64),.slot 4 false .bool],ex:=[(.ret,[]),(.exit 0,[])],pay:=.unit })]
theorem qV (x:AG [(true,T4),(true,T4)]):Ab Tryz.prog (AC pu fA) (AI oX) 3000 60 98 [(true,T4),(true,T4)] [(false,.bool)] x=GN x:=by kernel_rfl
def fC:List (FuncId×Sg):=(98,⟨[(true,T4),(true,T4)],[(false,.bool)],GN⟩)::fA
theorem fD:TabOK Tryz.prog (AC pu fC):=AE fB qV
def lE:List (Nat×Nat×Nat×An):=[(233,4,7,.loop { keep:=[0,1,7,9,8,6,10],kb:=[],pl:=[.slot 5 false (.int .i64),.slot 4 false .bool],ex:=[(.ret,[]),(.exit 0,[])],pay:=.unit })]
theorem oY (x:AG [(false,(.sl false (.int .i64))),(false,(.sl false (.int .i64)))]):Ab Tryz.prog (AC pu fC) (AI lE) 3000 60 233 [(false,(.sl false (.int .i64))),(false,(.sl false (.int .i64)))] [(false,.bool)] x=GG x:=by kernel_rfl
def fE:List (FuncId×Sg):=(233,⟨[(false,(.sl false (.int .i64))),(false,(.sl false (.int .i64)))],[(false,.bool)],GG⟩)::fC
theorem fF:TabOK Tryz.prog (AC pu fE):=AE fD oY
def lF:List (Nat×Nat×Nat×An):=[(234,4,26,.loop { keep:=[0,1,3,7,15,23,11,19,27,9,17,25,13,21,2,8,16,24,12,20,6,10,18,26,14,22],kb:=[0,1],pl:=[.slot 5 false (.int .i64),.slot 4 false .bool],ex:=[(.ret,[]),(.exit 0,[])],pay:=.unit })]
theorem oZ (x:AG [(true,T7),(true,T7)]):Ab Tryz.prog (AC pu fE) (AI lF) 3000 60 234 [(true,T7),(true,T7)] [(false,.bool)] x=E8 x:=by kernel_rfl
def fG:List (FuncId×Sg):=(234,⟨[(true,T7),(true,T7)],[(false,.bool)],E8⟩)::fE
theorem fH:TabOK Tryz.prog (AC pu fG):=AE fF oZ
def lG:List (Nat×Nat×Nat×An):=[(198,4,7,.loop { keep:=[0,1,7,9,8,6,10],kb:=[],pl:=[.slot 5 false (.int .i64),.slot 4 false .bool],ex:=[(.ret,[]),(.exit 0,[])],pay:=.unit })]
theorem oa (x:AG [(false,(.sl true T2)),(false,(.sl true T2))]):Ab Tryz.prog (AC pu fG) (AI lG) 3000 60 198 [(false,(.sl true T2)),(false,(.sl true T2))] [(false,.bool)] x=Bi x:=by kernel_rfl
def fI:List (FuncId×Sg):=(198,⟨[(false,(.sl true T2)),(false,(.sl true T2))],[(false,.bool)],Bi⟩)::fG
theorem fJ:TabOK Tryz.prog (AC pu fI):=AE fH oa
def lH:List (Nat×Nat×Nat×An):=[(197,4,27,.loop { keep:=[0,1,3,7,15,23,11,19,27,9,17,25,13,21,2,8,16,24,12,20,28,6,10,18,26,14,22],kb:=[0,1],pl:=[.slot 5 false (.int .i64),.slot 4 false .bool],ex:=[(.ret,[]),(.exit 0,[])],pay:=.unit })]
theorem oc (x:AG [(true,T9),(true,T9)]):Ab Tryz.prog (AC pu fI) (AI lH) 3000 60 197 [(true,T9),(true,T9)] [(false,.bool)] x=GJ x:=by kernel_rfl
def fK:List (FuncId×Sg):=(197,⟨[(true,T9),(true,T9)],[(false,.bool)],GJ⟩)::fI
theorem fL:TabOK Tryz.prog (AC pu fK):=AE fJ oc
theorem od (x:AG [(true,IR),(true,IR)]):Ab Tryz.prog (AC pu fK) (AI []) 3000 60 119 [(true,IR),(true,IR)] [(false,.bool)] x=BK x:=by kernel_rfl
def fM:List (FuncId×Sg):=(119,⟨[(true,IR),(true,IR)],[(false,.bool)],BK⟩)::fK
theorem fN:TabOK Tryz.prog (AC pu fM):=AE fL od
end Go.Proofs.YthpkjfabdccpdaaGreat.Pt
