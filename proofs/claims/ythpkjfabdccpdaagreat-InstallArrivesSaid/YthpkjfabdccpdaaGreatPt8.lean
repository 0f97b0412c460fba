/- The evaluator comes to each of the plain functions. No condition. -/
import Derived.Test.YthpkjfabdccpdaaGreatPt7
set_option linter.all false
namespace Go.Proofs.YthpkjfabdccpdaaGreat.Pt
open Go Go.Proofs.YthpkjfabdccpdaaGreat.Sv Go.Proofs.YthpkjfabdccpdaaGreat.Pl
set_option maxRecDepth 1000000
set_option linter.unusedVariables false
def jU:List (Nat×Nat×Nat×An):=[(234,4,26,.loop { keep:=[0,1,3,7,15,23,11,19,27,9,17,25,13,21,2,8,16,24,12,20,6,10,18,26,14,22],kb:=[0,1],pl:=[.slot 5 false (.int .i64),.slot 4 false .bool],ex:=[(.ret,[]),(.exit 0,[])],pay:=.unit })]
theorem mf (x:AG [(true,T7),(true,T7)]):Aa Tryz.prog (AB pu Ul) (AH jU) 3000 60 234 [(true,T7),(true,T7)] [(false,.bool)] x=E0 x:=by kernel_rfl
def Um:List (FuncId×Sg):=(234,⟨[(true,T7),(true,T7)],[(false,.bool)],E0⟩)::Ul
theorem XX:TabOK Tryz.prog (AB pu Um):=AE XW mf
def jV:List (Nat×Nat×Nat×An):=[(229,3,3,.loop { keep:=[0,1,4],kb:=[],pl:=[.slot 5 false (.int .i64),.slot 6 false (.int .i64)],ex:=[(.exit 0,[])],pay:=.unit })]
theorem mg (x:AG [(false,(.sl false (.sl true T2))),(false,(.sl false (.int .i64)))]):Aa Tryz.prog (AB pu Um) (AH jV) 3000 60 229 [(false,(.sl false (.sl true T2))),(false,(.sl false (.int .i64)))] [(false,(.int .i64))] x=DL x:=by kernel_rfl
def Un:List (FuncId×Sg):=(229,⟨[(false,(.sl false (.sl true T2))),(false,(.sl false (.int .i64)))],[(false,(.int .i64))],DL⟩)::Um
theorem XY:TabOK Tryz.prog (AB pu Un):=AE XX mg
def jW:List (Nat×Nat×Nat×An):=[(228,7,21,.loop { keep:=[0,1,15,23,11,27,5,17,25,13,21,4,16,24,12,18,26,14,22],kb:=[0],pl:=[.slot 3 false (.int .i64),.slot 2 false (.int .i64),.slot 6 false (.int .i64)],ex:=[(.ret,[]),(.exit 0,[])],pay:=.unit }),(228,15,38,.loop { keep:=[0,1,7,15,63,23,11,67,27,59,5,17,65,25,57,13,21,69,61,4,16,64,24,56,12,68,60,6,18,66,26,58,14,22,70,62],kb:=[0],pl:=[.slot 3 false (.int .i64),.slot 2 false (.int .i64),.slot 8 false (.int .i64)],ex:=[(.ret,[]),(.exit 2,[])],pay:=.unit })]
theorem mh (x:AG [(true,T9)]):Aa Tryz.prog (AB pu Un) (AH jW) 3000 60 228 [(true,T9)] [(false,(.int .i64)),(false,(.int .i64))] x=DM x:=by kernel_rfl
def Uo:List (FuncId×Sg):=(228,⟨[(true,T9)],[(false,(.int .i64)),(false,(.int .i64))],DM⟩)::Un
theorem XZ:TabOK Tryz.prog (AB pu Uo):=AE XY mh
def jX:List (Nat×Nat×Nat×An):=[(193,3,4,.loop { keep:=[0,1,2],kb:=[0],pl:=[.slot 3 false (.int .i64),.slot 4 false (.int .i64)],ex:=[(.exit 0,[])],pay:=.unit })]
theorem mi (x:AG [(true,H4)]):Aa Tryz.prog (AB pu Uo) (AH jX) 3000 60 193 [(true,H4)] [(false,(.int .i64))] x=Dx x:=by kernel_rfl
def Uq:List (FuncId×Sg):=(193,⟨[(true,H4)],[(false,(.int .i64))],Dx⟩)::Uo
theorem Xa:TabOK Tryz.prog (AB pu Uq):=AE XZ mi
def jY:List (Nat×Nat×Nat×An):=[(195,7,18,.loop { keep:=[0,15,11,19,5,17,13,16,12,20,6,14],kb:=[],pl:=[.srow 3 false (.int .i64) false,.srow 7 true T2 false,.srow 2 true T2 false,.slot 4 false (.int .i64),.srow 8 false (.int .i64) false,.srow 9 false (.int .i64) true],ex:=[(.ret,[])],pay:=.unit,plx:=[.srow 3 false (.int .i64) false,.srow 2 true T2 false,.slot 4 false (.int .i64)] })]
theorem mj (x:AG [(false,(.sl false (.sl true T2)))]):Aa Tryz.prog (AB pu Uq) (AH jY) 3000 60 195 [(false,(.sl false (.sl true T2)))] [(false,(.sl true T2)),(false,(.sl false (.int .i64))),(false,(.int .i64))] x=Ed x:=by kernel_rfl
def Ur:List (FuncId×Sg):=(195,⟨[(false,(.sl false (.sl true T2)))],[(false,(.sl true T2)),(false,(.sl false (.int .i64))),(false,(.int .i64))],Ed⟩)::Uq
theorem Xb:TabOK Tryz.prog (AB pu Ur):=AE Xa mj
theorem ml (x:AG [(true,Om)]):Aa Tryz.prog (AB pu Ur) (AH []) 3000 60 271 [(true,Om)] [(false,(.int .i64))] x=FH x:=by kernel_rfl
def Us:List (FuncId×Sg):=(271,⟨[(true,Om)],[(false,(.int .i64))],FH⟩)::Ur
theorem Xc:TabOK Tryz.prog (AB pu Us):=AE Xb ml
theorem mo (x:AG [(true,Om),(true,T2)]):Aa Tryz.prog (AB pu Us) (AH []) 3000 60 251 [(true,Om),(true,T2)] [(false,.bool),(true,Om),(false,(.int .i64))] x=F2 x:=by kernel_rfl
def Ut:List (FuncId×Sg):=(251,⟨[(true,Om),(true,T2)],[(false,.bool),(true,Om),(false,(.int .i64))],F2⟩)::Us
theorem Xd:TabOK Tryz.prog (AB pu Ut):=AE Xc mo
def jZ:List (Nat×Nat×Nat×An):=[(232,6,12,.loop { keep:=[0,1,7,15,17,13,16,14],kb:=[],pl:=[.slot 5 false (.int .i64),.slot 9 false (.int .i64),.srow 4 true T2 false,.srow 8 true T2 false,.slot 6 false (.int .i64),.box 8 [.lf .bool,.lf .str,.lf .bool]],ex:=[(.ret,[]),(.exit 0,[])],pay:=.unit })]
theorem mq (x:AG [(false,(.sl true T2)),(false,.bool)]):Aa Tryz.prog (AB pu Ut) (AH jZ) 3000 60 232 [(false,(.sl true T2)),(false,.bool)] [(false,(.sl true T2)),(false,(.int .i64)),(false,(.int .i64))] x=Ee x:=by kernel_rfl
def Uu:List (FuncId×Sg):=(232,⟨[(false,(.sl true T2)),(false,.bool)],[(false,(.sl true T2)),(false,(.int .i64)),(false,(.int .i64))],Ee⟩)::Ut
theorem Xe:TabOK Tryz.prog (AB pu Uu):=AE Xd mq
theorem mr (x:AG [(false,(.sl true T2)),(false,.bool)]):Aa Tryz.prog (AB pu Uu) (AH []) 3000 60 196 [(false,(.sl true T2)),(false,.bool)] [(false,(.sl true T2)),(true,Om)] x=Ct x:=by kernel_rfl
def Uv:List (FuncId×Sg):=(196,⟨[(false,(.sl true T2)),(false,.bool)],[(false,(.sl true T2)),(true,Om)],Ct⟩)::Uu
theorem Xf:TabOK Tryz.prog (AB pu Uv):=AE Xe mr
def ja:List (Nat×Nat×Nat×An):=[(198,4,7,.loop { keep:=[0,1,7,9,8,6,10],kb:=[],pl:=[.slot 5 false (.int .i64),.slot 4 false .bool],ex:=[(.ret,[]),(.exit 0,[])],pay:=.unit })]
theorem mt (x:AG [(false,(.sl true T2)),(false,(.sl true T2))]):Aa Tryz.prog (AB pu Uv) (AH ja) 3000 60 198 [(false,(.sl true T2)),(false,(.sl true T2))] [(false,.bool)] x=Bp x:=by kernel_rfl
def Uw:List (FuncId×Sg):=(198,⟨[(false,(.sl true T2)),(false,(.sl true T2))],[(false,.bool)],Bp⟩)::Uv
theorem Xg:TabOK Tryz.prog (AB pu Uw):=AE Xf mt
theorem mu (x:AG [(true,H4)]):Aa Tryz.prog (AB pu Uw) (AH []) 3000 60 191 [(true,H4)] [(false,(.int .i64))] x=FI x:=by kernel_rfl
def Ux:List (FuncId×Sg):=(191,⟨[(true,H4)],[(false,(.int .i64))],FI⟩)::Uw
theorem Xh:TabOK Tryz.prog (AB pu Ux):=AE Xg mu
def jc:List (Nat×Nat×Nat×An):=[(192,6,14,.loop { keep:=[0,1,3,11,5,9,13,2,4,8,12,10,14],kb:=[0],pl:=[.slot 7 false (.int .i64),.slot 6 false (.int .i64)],ex:=[(.exit 0,[])],pay:=.unit })]
theorem mv (x:AG [(true,T9)]):Aa Tryz.prog (AB pu Ux) (AH jc) 3000 60 192 [(true,T9)] [(false,(.int .i64)),(false,(.int .i64))] x=F3 x:=by kernel_rfl
def Uy:List (FuncId×Sg):=(192,⟨[(true,T9)],[(false,(.int .i64)),(false,(.int .i64))],F3⟩)::Ux
theorem Xi:TabOK Tryz.prog (AB pu Uy):=AE Xh mv
theorem mw (x:AG [(true,H4)]):Aa Tryz.prog (AB pu Uy) (AH []) 3000 60 117 [(true,H4)] [(false,(.int .i64)),(false,(.int .i64))] x=BC x:=by kernel_rfl
def Uz:List (FuncId×Sg):=(117,⟨[(true,H4)],[(false,(.int .i64)),(false,(.int .i64))],BC⟩)::Uy
theorem Xj:TabOK Tryz.prog (AB pu Uz):=AE Xi mw
theorem my (x:AG [(true,T9)]):Aa Tryz.prog (AB pu Uz) (AH []) 3000 60 194 [(true,T9)] [(true,T2),(false,(.int .i64)),(true,T9),(false,(.int .i64))] x=Dy x:=by kernel_rfl
def U0:List (FuncId×Sg):=(194,⟨[(true,T9)],[(true,T2),(false,(.int .i64)),(true,T9),(false,(.int .i64))],Dy⟩)::Uz
theorem Xk:TabOK Tryz.prog (AB pu U0):=AE Xj my
end Go.Proofs.YthpkjfabdccpdaaGreat.Pt
