/- The evaluator comes to each of the plain functions. No condition. -/
import Derived.Test.YthpkjfabdccpdaaGreatPt0
set_option linter.all false
namespace Go.Proofs.YthpkjfabdccpdaaGreat.Pt
open Go Go.Proofs.YthpkjfabdccpdaaGreat.Sv Go.Proofs.YthpkjfabdccpdaaGreat.Pl
set_option maxRecDepth 1000000
set_option linter.unusedVariables false
def jt:List (Nat×Nat×Nat×An):=[(187,9,21,.loop { keep:=[0,1,3,7,15,23,11,19,25,13,21,2,8,16,24,12,20,10,18,26,14,22],kb:=[0],pl:=[.slot 9 false (.int .i64),.slot 6 false (.int .i64)],ex:=[(.ret,[]),(.exit 0,[])],pay:=.unit })]
theorem lm (x:AG [(true,T3),(false,(.int .i64)),(false,(.sl false (.int .i64)))]):AZ Tryz.prog (AC pu aq) (AH jt) 3000 60 187 [(true,T3),(false,(.int .i64)),(false,(.sl false (.int .i64)))] [(false,(.int .i64))] x=D7 x:=by kernel_rfl
def aw:List (FuncId×Sg):=(187,⟨[(true,T3),(false,(.int .i64)),(false,(.sl false (.int .i64)))],[(false,(.int .i64))],D7⟩)::aq
theorem ax:TabOK Tryz.prog (AC pu aw):=AF au lm
def ju:List (Nat×Nat×Nat×An):=[(112,7,18,.loop { keep:=[0,1,15,11,19,17,13,21,16,12,20,10,18,14],kb:=[0],pl:=[.slot 3 false (.int .i64),.srow 5 false (.int .i64) false,.slot 2 false (.int .i64),.slot 4 false (.int .i64),.slot 6 false (.int .i64)],ex:=[(.ret,[]),(.exit 0,[])],pay:=.unit }),(112,13,35,.loop { keep:=[0,1,7,15,31,23,11,19,35,17,33,25,13,21,37,29,16,32,24,12,20,36,6,10,18,34,26,14,22,30],kb:=[0],pl:=[.slot 3 false (.int .i64),.srow 5 false (.int .i64) false,.slot 2 false (.int .i64),.slot 4 false (.int .i64),.slot 8 false (.int .i64)],ex:=[(.ret,[]),(.exit 2,[])],pay:=.unit })]
theorem lq (x:AG [(true,T4)]):AZ Tryz.prog (AC pu aw) (AH ju) 3000 60 112 [(true,T4)] [(false,(.int .i64)),(false,(.int .i64)),(false,(.int .i64))] x=CU x:=by kernel_rfl
def ay:List (FuncId×Sg):=(112,⟨[(true,T4)],[(false,(.int .i64)),(false,(.int .i64)),(false,(.int .i64))],CU⟩)::aw
theorem az:TabOK Tryz.prog (AC pu ay):=AF ax lq
def jv:List (Nat×Nat×Nat×An):=[(120,6,16,.loop { keep:=[0,1,3,15,11,5,17,13,2,4,16,12,6,10,14],kb:=[0],pl:=[.srow 7 true T3 false,.slot 8 false (.int .i64)],ex:=[(.exit 0,[])],pay:=.unit }),(120,9,31,.loop { keep:=[0,1,3,15,31,23,11,19,27,5,17,33,13,21,29,2,4,8,16,32,12,20,28,6,10,26,14,22,30],kb:=[0],pl:=[.srow 7 true T3 false,.slot 9 false (.int .i64)],ex:=[(.exit 2,[])],pay:=.unit })]
theorem lr (x:AG [(true,T4)]):AZ Tryz.prog (AC pu ay) (AH jv) 3000 60 120 [(true,T4)] [(false,(.sl true T3)),(false,(.int .i64))] x=El x:=by kernel_rfl
def bA:List (FuncId×Sg):=(120,⟨[(true,T4)],[(false,(.sl true T3)),(false,(.int .i64))],El⟩)::ay
theorem bB:TabOK Tryz.prog (AC pu bA):=AF az lr
def jw:List (Nat×Nat×Nat×An):=[(113,4,11,.loop { keep:=[0,1,3,7,11,9,2,4,8,10],kb:=[0],pl:=[.slot 5 false (.int .i64),.slot 6 false (.int .i64)],ex:=[(.exit 0,[])],pay:=.unit })]
theorem lu (x:AG [(true,T4)]):AZ Tryz.prog (AC pu bA) (AH jw) 3000 60 113 [(true,T4)] [(false,(.int .i64))] x=CO x:=by kernel_rfl
def bC:List (FuncId×Sg):=(113,⟨[(true,T4)],[(false,(.int .i64))],CO⟩)::bA
theorem bD:TabOK Tryz.prog (AC pu bC):=AF bB lu
def jx:List (Nat×Nat×Nat×An):=[(114,3,4,.loop { keep:=[0,1,2],kb:=[0],pl:=[.srow 3 false (.int .i64) false,.slot 4 false (.int .i64)],ex:=[(.exit 0,[])],pay:=.unit })]
theorem lw (x:AG [(true,T4)]):AZ Tryz.prog (AC pu bC) (AH jx) 3000 60 114 [(true,T4)] [(false,(.sl false (.int .i64)))] x=Bj x:=by kernel_rfl
def bE:List (FuncId×Sg):=(114,⟨[(true,T4)],[(false,(.sl false (.int .i64)))],Bj⟩)::bC
theorem bF:TabOK Tryz.prog (AC pu bE):=AF bD lw
theorem lx (x:AG [(true,T4),(false,(.int .i64))]):AZ Tryz.prog (AC pu bE) (AH []) 3000 60 186 [(true,T4),(false,(.int .i64))] [(false,(.int .i64))] x=Hi x:=by kernel_rfl
def bG:List (FuncId×Sg):=(186,⟨[(true,T4),(false,(.int .i64))],[(false,(.int .i64))],Hi⟩)::bE
theorem bH:TabOK Tryz.prog (AC pu bG):=AF bF lx
theorem ly (x:AG [(true,T4),(false,(.int .i64))]):AZ Tryz.prog (AC pu bG) (AH []) 3000 60 189 [(true,T4),(false,(.int .i64))] [(false,.bool),(false,(.int .i64))] x=Gt x:=by kernel_rfl
def bI:List (FuncId×Sg):=(189,⟨[(true,T4),(false,(.int .i64))],[(false,.bool),(false,(.int .i64))],Gt⟩)::bG
theorem bJ:TabOK Tryz.prog (AC pu bI):=AF bH ly
theorem lz (x:AG [(true,T4),(false,(.int .i64))]):AZ Tryz.prog (AC pu bI) (AH []) 3000 60 115 [(true,T4),(false,(.int .i64))] [(false,.bool)] x=BJ x:=by kernel_rfl
def bK:List (FuncId×Sg):=(115,⟨[(true,T4),(false,(.int .i64))],[(false,.bool)],BJ⟩)::bI
theorem bL:TabOK Tryz.prog (AC pu bK):=AF bJ lz
def jy:List (Nat×Nat×Nat×An):=[(231,6,9,.loop { keep:=[0,7,11,9,8,12,10],kb:=[],pl:=[.slot 3 false (.int .i64),.slot 2 false (.int .i64),.slot 4 false (.int .i64)],ex:=[(.ret,[]),(.exit 0,[])],pay:=.unit })]
theorem l7 (x:AG [(false,(.sl false (.sl true T2)))]):AZ Tryz.prog (AC pu bK) (AH jy) 3000 60 231 [(false,(.sl false (.sl true T2)))] [(false,(.int .i64)),(false,(.int .i64))] x=DW x:=by kernel_rfl
def bM:List (FuncId×Sg):=(231,⟨[(false,(.sl false (.sl true T2)))],[(false,(.int .i64)),(false,(.int .i64))],DW⟩)::bK
theorem bN:TabOK Tryz.prog (AC pu bM):=AF bL l7
def jz:List (Nat×Nat×Nat×An):=[(269,6,8,.loop { keep:=[0,7,5,9,4,8,6],kb:=[],pl:=[.slot 3 false (.int .i64),.slot 2 false (.int .i64)],ex:=[(.ret,[]),(.exit 0,[])],pay:=.unit })]
theorem l8 (x:AG [(false,(.sl true T5))]):AZ Tryz.prog (AC pu bM) (AH jz) 3000 60 269 [(false,(.sl true T5))] [(false,(.int .i64))] x=FO x:=by kernel_rfl
def bO:List (FuncId×Sg):=(269,⟨[(false,(.sl true T5))],[(false,(.int .i64))],FO⟩)::bM
theorem bQ:TabOK Tryz.prog (AC pu bO):=AF bN l8
theorem l9 (x:AG [(false,(.sl true T5)),(false,(.int .i64)),(false,(.int .i64))]):AZ Tryz.prog (AC pu bO) (AH []) 3000 60 287 [(false,(.sl true T5)),(false,(.int .i64)),(false,(.int .i64))] [(false,.bool)] x=E4 x:=by kernel_rfl
def bR:List (FuncId×Sg):=(287,⟨[(false,(.sl true T5)),(false,(.int .i64)),(false,(.int .i64))],[(false,.bool)],E4⟩)::bO
theorem bS:TabOK Tryz.prog (AC pu bR):=AF bQ l9
theorem mA (r:AG [(false,(.sl true T5)),(false,(.int .i64))]->Option (AG [(false,(.int .i64)),(false,(.int .i64))])) (x:AG [(false,(.sl true T5)),(false,(.int .i64))]):AZ Tryz.prog (AC pu ((281,⟨[(false,(.sl true T5)),(false,(.int .i64))],[(false,(.int .i64)),(false,(.int .i64))],r⟩)::bR)) (AH []) 3000 60 281 [(false,(.sl true T5)),(false,(.int .i64))] [(false,(.int .i64)),(false,(.int .i64))] x=Av r x:=by kernel_rfl
def bT:List (FuncId×Sg):=(281,⟨[(false,(.sl true T5)),(false,(.int .i64))],[(false,(.int .i64)),(false,(.int .i64))],Jw (α:=AG [(false,(.sl true T5)),(false,(.int .i64))]) (β:=AG [(false,(.int .i64)),(false,(.int .i64))]) Av 100⟩)::bR
theorem bU:TabOK Tryz.prog (AC pu bT):=gT bS mA (by rfl) (by rfl) 100
def j0:List (Nat×Nat×Nat×An):=[(270,3,11,.loop { keep:=[0,3,5,9,2,8,6],kb:=[0],pl:=[.slot 4 false (.int .i64),.box 8 [.ow true T5 false,.ow false (.int .i64) true,.lf (.int .i64)]],ex:=[(.exit 0,[])],pay:=.unit })]
theorem mB (x:AG [(false,(.sl true T5))]):AZ Tryz.prog (AC pu bT) (AH j0) 3000 60 270 [(false,(.sl true T5))] [(true,T7)] x=GH x:=by kernel_rfl
def bV:List (FuncId×Sg):=(270,⟨[(false,(.sl true T5))],[(true,T7)],GH⟩)::bT
theorem bW:TabOK Tryz.prog (AC pu bV):=AF bU mB
theorem mC (x:AG [(false,(.sl true T5))]):AZ Tryz.prog (AC pu bV) (AH []) 3000 60 250 [(false,(.sl true T5))] [(true,T7),(false,(.int .i64))] x=EQ x:=by kernel_rfl
def bX:List (FuncId×Sg):=(250,⟨[(false,(.sl true T5))],[(true,T7),(false,(.int .i64))],EQ⟩)::bV
theorem bY:TabOK Tryz.prog (AC pu bX):=AF bW mC
end Go.Proofs.YthpkjfabdccpdaaGreat.Pt
