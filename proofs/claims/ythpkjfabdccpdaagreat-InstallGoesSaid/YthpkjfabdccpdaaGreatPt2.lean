/- The evaluator comes to each of the plain functions. No condition. -/
import Derived.Test.YthpkjfabdccpdaaGreatPt1
set_option linter.all false
namespace Go.Proofs.YthpkjfabdccpdaaGreat.Pt
open Go Go.Proofs.YthpkjfabdccpdaaGreat.Sv Go.Proofs.YthpkjfabdccpdaaGreat.Pl
set_option maxRecDepth 1000000
set_option linter.unusedVariables false
def jh:List (Nat×Nat×Nat×An):=[(229,3,3,.loop { keep:=[0,1,4],kb:=[],pl:=[.slot 5 false (.int .i64),.slot 6 false (.int .i64)],ex:=[(.exit 0,[])],pay:=.unit })]
theorem ld (x:AG [(false,(.sl false (.sl true T2))),(false,(.sl false (.int .i64)))]):Ac Tryz.prog (AC pu bA) (AI jh) 3000 60 229 [(false,(.sl false (.sl true T2))),(false,(.sl false (.int .i64)))] [(false,(.int .i64))] x=De x:=by kernel_rfl
def bC:List (FuncId×Sg):=(229,⟨[(false,(.sl false (.sl true T2))),(false,(.sl false (.int .i64)))],[(false,(.int .i64))],De⟩)::bA
theorem bD:TabOK Tryz.prog (AC pu bC):=AF bB ld
def ji:List (Nat×Nat×Nat×An):=[(228,7,21,.loop { keep:=[0,1,15,23,11,27,5,17,25,13,21,4,16,24,12,18,26,14,22],kb:=[0],pl:=[.slot 3 false (.int .i64),.slot 2 false (.int .i64),.slot 6 false (.int .i64)],ex:=[(.ret,[]),(.exit 0,[])],pay:=.unit }),(228,15,38,.loop { keep:=[0,1,7,15,63,23,11,67,27,59,5,17,65,25,57,13,21,69,61,4,16,64,24,56,12,68,60,6,18,66,26,58,14,22,70,62],kb:=[0],pl:=[.slot 3 false (.int .i64),.slot 2 false (.int .i64),.slot 8 false (.int .i64)],ex:=[(.ret,[]),(.exit 2,[])],pay:=.unit })]
theorem lg (x:AG [(true,T9)]):Ac Tryz.prog (AC pu bC) (AI ji) 3000 60 228 [(true,T9)] [(false,(.int .i64)),(false,(.int .i64))] x=Df x:=by kernel_rfl
def bE:List (FuncId×Sg):=(228,⟨[(true,T9)],[(false,(.int .i64)),(false,(.int .i64))],Df⟩)::bC
theorem bF:TabOK Tryz.prog (AC pu bE):=AF bD lg
def jj:List (Nat×Nat×Nat×An):=[(193,3,4,.loop { keep:=[0,1,2],kb:=[0],pl:=[.slot 3 false (.int .i64),.slot 4 false (.int .i64)],ex:=[(.exit 0,[])],pay:=.unit })]
theorem lh (x:AG [(true,IE)]):Ac Tryz.prog (AC pu bE) (AI jj) 3000 60 193 [(true,IE)] [(false,(.int .i64))] x=EA x:=by kernel_rfl
def bG:List (FuncId×Sg):=(193,⟨[(true,IE)],[(false,(.int .i64))],EA⟩)::bE
theorem bH:TabOK Tryz.prog (AC pu bG):=AF bF lh
def jk:List (Nat×Nat×Nat×An):=[(195,7,18,.loop { keep:=[0,15,11,19,5,17,13,16,12,20,6,14],kb:=[],pl:=[.srow 3 false (.int .i64) false,.srow 7 true T2 false,.srow 2 true T2 false,.slot 4 false (.int .i64),.srow 8 false (.int .i64) false,.srow 9 false (.int .i64) true],ex:=[(.ret,[])],pay:=.unit,plx:=[.srow 3 false (.int .i64) false,.srow 2 true T2 false,.slot 4 false (.int .i64)] })]
theorem lj (x:AG [(false,(.sl false (.sl true T2)))]):Ac Tryz.prog (AC pu bG) (AI jk) 3000 60 195 [(false,(.sl false (.sl true T2)))] [(false,(.sl true T2)),(false,(.sl false (.int .i64))),(false,(.int .i64))] x=Ei x:=by kernel_rfl
def bI:List (FuncId×Sg):=(195,⟨[(false,(.sl false (.sl true T2)))],[(false,(.sl true T2)),(false,(.sl false (.int .i64))),(false,(.int .i64))],Ei⟩)::bG
theorem bJ:TabOK Tryz.prog (AC pu bI):=AF bH lj
theorem lm (x:AG [(true,PN)]):Ac Tryz.prog (AC pu bI) (AI []) 3000 60 271 [(true,PN)] [(false,(.int .i64))] x=FK x:=by kernel_rfl
def bK:List (FuncId×Sg):=(271,⟨[(true,PN)],[(false,(.int .i64))],FK⟩)::bI
theorem bL:TabOK Tryz.prog (AC pu bK):=AF bJ lm
theorem lq (x:AG [(true,PN),(true,T2)]):Ac Tryz.prog (AC pu bK) (AI []) 3000 60 251 [(true,PN),(true,T2)] [(false,.bool),(true,PN),(false,(.int .i64))] x=GE x:=by kernel_rfl
def bM:List (FuncId×Sg):=(251,⟨[(true,PN),(true,T2)],[(false,.bool),(true,PN),(false,(.int .i64))],GE⟩)::bK
theorem bN:TabOK Tryz.prog (AC pu bM):=AF bL lq
def jl:List (Nat×Nat×Nat×An):=[(232,6,12,.loop { keep:=[0,1,7,15,17,13,16,14],kb:=[],pl:=[.slot 5 false (.int .i64),.slot 9 false (.int .i64),.srow 4 true T2 false,.srow 8 true T2 false,.slot 6 false (.int .i64),.box 8 [.lf .bool,.lf .str,.lf .bool]],ex:=[(.ret,[]),(.exit 0,[])],pay:=.unit })]
theorem lr (x:AG [(false,(.sl true T2)),(false,.bool)]):Ac Tryz.prog (AC pu bM) (AI jl) 3000 60 232 [(false,(.sl true T2)),(false,.bool)] [(false,(.sl true T2)),(false,(.int .i64)),(false,(.int .i64))] x=Ej x:=by kernel_rfl
def bO:List (FuncId×Sg):=(232,⟨[(false,(.sl true T2)),(false,.bool)],[(false,(.sl true T2)),(false,(.int .i64)),(false,(.int .i64))],Ej⟩)::bM
theorem bQ:TabOK Tryz.prog (AC pu bO):=AF bN lr
theorem lu (x:AG [(false,(.sl true T2)),(false,.bool)]):Ac Tryz.prog (AC pu bO) (AI []) 3000 60 196 [(false,(.sl true T2)),(false,.bool)] [(false,(.sl true T2)),(true,PN)] x=DC x:=by kernel_rfl
def bR:List (FuncId×Sg):=(196,⟨[(false,(.sl true T2)),(false,.bool)],[(false,(.sl true T2)),(true,PN)],DC⟩)::bO
theorem bS:TabOK Tryz.prog (AC pu bR):=AF bQ lu
def jm:List (Nat×Nat×Nat×An):=[(198,4,7,.loop { keep:=[0,1,7,9,8,6,10],kb:=[],pl:=[.slot 5 false (.int .i64),.slot 4 false .bool],ex:=[(.ret,[]),(.exit 0,[])],pay:=.unit })]
theorem lw (x:AG [(false,(.sl true T2)),(false,(.sl true T2))]):Ac Tryz.prog (AC pu bR) (AI jm) 3000 60 198 [(false,(.sl true T2)),(false,(.sl true T2))] [(false,.bool)] x=Bw x:=by kernel_rfl
def bT:List (FuncId×Sg):=(198,⟨[(false,(.sl true T2)),(false,(.sl true T2))],[(false,.bool)],Bw⟩)::bR
theorem bU:TabOK Tryz.prog (AC pu bT):=AF bS lw
theorem lx (x:AG [(true,IE)]):Ac Tryz.prog (AC pu bT) (AI []) 3000 60 191 [(true,IE)] [(false,(.int .i64))] x=FL x:=by kernel_rfl
def bV:List (FuncId×Sg):=(191,⟨[(true,IE)],[(false,(.int .i64))],FL⟩)::bT
theorem bW:TabOK Tryz.prog (AC pu bV):=AF bU lx
def jo:List (Nat×Nat×Nat×An):=[(192,6,14,.loop { keep:=[0,1,3,11,5,9,13,2,4,8,12,10,14],kb:=[0],pl:=[.slot 7 false (.int .i64),.slot 6 false (.int .i64)],ex:=[(.exit 0,[])],pay:=.unit })]
theorem ly (x:AG [(true,T9)]):Ac Tryz.prog (AC pu bV) (AI jo) 3000 60 192 [(true,T9)] [(false,(.int .i64)),(false,(.int .i64))] x=GF x:=by kernel_rfl
def bX:List (FuncId×Sg):=(192,⟨[(true,T9)],[(false,(.int .i64)),(false,(.int .i64))],GF⟩)::bV
theorem bY:TabOK Tryz.prog (AC pu bX):=AF bW ly
theorem lz (x:AG [(true,IE)]):Ac Tryz.prog (AC pu bX) (AI []) 3000 60 117 [(true,IE)] [(false,(.int .i64)),(false,(.int .i64))] x=A7 x:=by kernel_rfl
def bZ:List (FuncId×Sg):=(117,⟨[(true,IE)],[(false,(.int .i64)),(false,(.int .i64))],A7⟩)::bX
theorem ba:TabOK Tryz.prog (AC pu bZ):=AF bY lz
theorem l7 (x:AG [(true,T9)]):Ac Tryz.prog (AC pu bZ) (AI []) 3000 60 194 [(true,T9)] [(true,T2),(false,(.int .i64)),(true,T9),(false,(.int .i64))] x=EB x:=by kernel_rfl
def bc:List (FuncId×Sg):=(194,⟨[(true,T9)],[(true,T2),(false,(.int .i64)),(true,T9),(false,(.int .i64))],EB⟩)::bZ
theorem bf:TabOK Tryz.prog (AC pu bc):=AF ba l7
def jp:List (Nat×Nat×Nat×An):=[(118,11,32,.loop { keep:=[0,1,7,15,31,23,39,19,35,27,5,9,17,33,25,21,37,2,4,8,16,32,24,20,36,6,10,18,34,26,22,30],kb:=[0,1],pl:=[.slot 11 false (.int .i64),.box 29 [.lf (.sl false (.sl true T2)),.lf (.sl false (.int .i64)),.lf (.sl true T5),.lf (.sl false (.int .i64)),.lf (.int .i64),.lf .bool,.lf .str,.lf .bool,.lf (.sl true T2),.lf (.int .i64)]],ex:=[(.exit 0,[])],pay:=.unit })]
theorem l8 (x:AG [(true,IE),(false,(.int .i64))]):Ac Tryz.prog (AC pu bc) (AI jp) 3000 60 118 [(true,IE),(false,(.int .i64))] [(true,IE),(false,(.int .i64)),(false,(.int .i64))] x=BJ x:=by kernel_rfl
def bg:List (FuncId×Sg):=(118,⟨[(true,IE),(false,(.int .i64))],[(true,IE),(false,(.int .i64)),(false,(.int .i64))],BJ⟩)::bc
theorem bh:TabOK Tryz.prog (AC pu bg):=AF bf l8
end Go.Proofs.YthpkjfabdccpdaaGreat.Pt
