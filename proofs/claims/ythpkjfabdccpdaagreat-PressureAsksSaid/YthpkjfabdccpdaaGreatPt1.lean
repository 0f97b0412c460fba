/- The evaluator comes to each of the plain functions. No condition. -/
import Derived.Test.YthpkjfabdccpdaaGreatPt0
set_option linter.all false
namespace Go.Proofs.YthpkjfabdccpdaaGreat.Pt
open Go Go.Proofs.YthpkjfabdccpdaaGreat.Sv Go.Proofs.YthpkjfabdccpdaaGreat.Pl
set_option maxRecDepth 1000000
set_option linter.unusedVariables false
def kV:List (Nat×Nat×Nat×An):=[(184,4,8,.loop { keep:=[0,7,11,9,8,10],kb:=[],pl:=[.slot 3 false (.int .i64),.slot 2 false (.int .i64),.slot 12 false (.int .i64)],ex:=[(.ret,[]),(.exit 0,[])],pay:=.unit })]
theorem mf (x:AG [(false,(.sl true T2))]):Ab Tryz.prog (AC pu bE) (AI kV) 3000 60 184 [(false,(.sl true T2))] [(false,(.int .i64)),(false,(.int .i64))] x=A8 x:=by kernel_rfl
def bG:List (FuncId×Sg):=(184,⟨[(false,(.sl true T2))],[(false,(.int .i64)),(false,(.int .i64))],A8⟩)::bE
theorem bH:TabOK Tryz.prog (AC pu bG):=AE bF mf
theorem mg (x:AG [(true,T3)]):Ab Tryz.prog (AC pu bG) (AI []) 3000 60 109 [(true,T3)] [(false,(.int .i64)),(false,(.int .i64))] x=E4 x:=by kernel_rfl
def bI:List (FuncId×Sg):=(109,⟨[(true,T3)],[(false,(.int .i64)),(false,(.int .i64))],E4⟩)::bG
theorem bJ:TabOK Tryz.prog (AC pu bI):=AE bH mg
theorem mh (x:AG [(true,T3),(false,(.int .i64))]):Ab Tryz.prog (AC pu bI) (AI []) 3000 60 172 [(true,T3),(false,(.int .i64))] [(false,(.int .i64))] x=Cn x:=by kernel_rfl
def bK:List (FuncId×Sg):=(172,⟨[(true,T3),(false,(.int .i64))],[(false,(.int .i64))],Cn⟩)::bI
theorem bL:TabOK Tryz.prog (AC pu bK):=AE bJ mh
def kW:List (Nat×Nat×Nat×An):=[(122,8,26,.loop { keep:=[0,1,15,23,11,19,27,5,17,25,13,21,29,16,24,12,20,28,18,26,14,22],kb:=[0],pl:=[.slot 3 false (.int .i64),.slot 2 false (.int .i64),.slot 4 false (.int .i64),.slot 30 false (.int .i64),.map 18 (.int .i64) false .bool],ex:=[(.exit 1,[])],pay:=.unit }),(122,14,44,.loop { keep:=[0,1,7,15,31,23,39,11,19,35,27,5,17,33,25,41,13,21,37,29,2,16,32,24,40,12,20,36,28,6,18,34,26,42,14,22,38,30],kb:=[0,30],pl:=[.slot 3 false (.int .i64),.slot 43 false (.int .i64),.slot 4 false (.int .i64),.map 18 (.int .i64) false .bool],ex:=[(.exit 1,[]),(.exit 3,[])],pay:=.unit })]
theorem mi (x:AG [(true,T4)]):Ab Tryz.prog (AC pu bK) (AI kW) 3000 60 122 [(true,T4)] [(false,(.int .i64)),(false,(.int .i64)),(false,(.int .i64))] x=C2 x:=by kernel_rfl
def bM:List (FuncId×Sg):=(122,⟨[(true,T4)],[(false,(.int .i64)),(false,(.int .i64)),(false,(.int .i64))],C2⟩)::bK
theorem bN:TabOK Tryz.prog (AC pu bM):=AE bL mi
def kX:List (Nat×Nat×Nat×An):=[(180,2,6,.loop { keep:=[0,1,7,9,8],kb:=[0],pl:=[.slot 2 false (.int .i64),.slot 10 false (.int .i64)],ex:=[(.exit 0,[])],pay:=.unit }),(180,5,15,.loop { keep:=[0,1,7,15,11,9,13,4,8,16,12,10,14],kb:=[0,9],pl:=[.slot 17 false (.int .i64),.slot 2 false (.int .i64)],ex:=[(.exit 2,[])],pay:=.unit })]
theorem mj (x:AG [(true,T4)]):Ab Tryz.prog (AC pu bM) (AI kX) 3000 60 180 [(true,T4)] [(false,(.int .i64))] x=EB x:=by kernel_rfl
def bO:List (FuncId×Sg):=(180,⟨[(true,T4)],[(false,(.int .i64))],EB⟩)::bM
theorem bQ:TabOK Tryz.prog (AC pu bO):=AE bN mj
theorem ml (x:AG [(true,T4),(false,(.int .i64))]):Ab Tryz.prog (AC pu bO) (AI []) 3000 60 181 [(true,T4),(false,(.int .i64))] [(false,.bool)] x=EJ x:=by kernel_rfl
def bR:List (FuncId×Sg):=(181,⟨[(true,T4),(false,(.int .i64))],[(false,.bool)],EJ⟩)::bO
theorem bS:TabOK Tryz.prog (AC pu bR):=AE bQ ml
def kY:List (Nat×Nat×Nat×An):=[(254,6,13,.loop { keep:=[0,15,11,9,17,13,8,16,12,10,14],kb:=[],pl:=[.slot 3 false (.int .i64),.slot 2 false (.int .i64),.slot 18 false (.int .i64)],ex:=[(.ret,[]),(.exit 1,[])],pay:=.unit })]
theorem mo (x:AG [(false,(.sl false (.sl true T2)))]):Ab Tryz.prog (AC pu bR) (AI kY) 3000 60 254 [(false,(.sl false (.sl true T2)))] [(false,(.int .i64)),(false,(.int .i64))] x=DM x:=by kernel_rfl
def bT:List (FuncId×Sg):=(254,⟨[(false,(.sl false (.sl true T2)))],[(false,(.int .i64)),(false,(.int .i64))],DM⟩)::bR
theorem bU:TabOK Tryz.prog (AC pu bT):=AE bS mo
theorem mq (x:AG [(false,.bool)]):Ab Tryz.prog (AC pu bT) (AI []) 3000 60 243 [(false,.bool)] [(true,PJ)] x=CS x:=by kernel_rfl
def bV:List (FuncId×Sg):=(243,⟨[(false,.bool)],[(true,PJ)],CS⟩)::bT
theorem bW:TabOK Tryz.prog (AC pu bV):=AE bU mq
theorem mr:M6 Tryz.prog (λf => !pu f) 1000 100 268=true:=by kernel_rfl
theorem mt (a:Ty.den (.sl true T2)) (l:List (Ty.den (.sl true T2))):Ab Tryz.prog (AC pu bV) (AI []) 3000 60 268 [(false,(.sl false (.sl true T2)))] [(false,(.sl false (.sl true T2)))] (a::l)=Ai (a::l):=by kernel_rfl
def bX:List (FuncId×Sg):=(268,⟨[(false,(.sl false (.sl true T2)))],[(false,(.sl false (.sl true T2)))],Ai⟩)::bV
theorem bY:TabOK Tryz.prog (AC pu bX):=Oo (gg:=false) (c:=(.sl true T2)) bW mr rfl mt
theorem mu:Oq Tryz.prog (λf => !pu f) 1000 100 268=true:=by kernel_rfl
theorem mv (a:Ty.den (.sl true T2)) (l:List (Ty.den (.sl true T2))):P4 Tryz.prog (AC pu bX) (AI []) 3000 60 268 [(false,(.sl false (.sl true T2)))] false (.sl true T2) (a::l)=Ai (a::l):=by kernel_rfl
def bZ:List (FuncId×Sg):=(268+HI,⟨[(false,(.sl false (.sl true T2)))],[(false,(.sl false (.sl true T2)))],Ai⟩)::bX
theorem ba:TabOK Tryz.prog (AC pu bZ):=Ot (gg:=false) (c:=(.sl true T2)) bY mu rfl (λa l y h=>Ou h) mv
theorem mw (x:AG [(false,(.sl true T2)),(false,(.int .i64))]):Ab Tryz.prog (AC pu bZ) (AI []) 3000 60 272 [(false,(.sl true T2)),(false,(.int .i64))] [(true,T5)] x=BD x:=by kernel_rfl
def bc:List (FuncId×Sg):=(272,⟨[(false,(.sl true T2)),(false,(.int .i64))],[(true,T5)],BD⟩)::bZ
theorem bf:TabOK Tryz.prog (AC pu bc):=AE ba mw
theorem my (x:AG [(true,T5)]):Ab Tryz.prog (AC pu bc) (AI []) 3000 60 289 [(true,T5)] [(false,.bool)] x=DB x:=by kernel_rfl
def bg:List (FuncId×Sg):=(289,⟨[(true,T5)],[(false,.bool)],DB⟩)::bc
theorem bh:TabOK Tryz.prog (AC pu bg):=AE bf my
def kZ:List (Nat×Nat×Nat×An):=[(291,2,22,.loop { keep:=[0,1,7,6],kb:=[],pl:=[.slot 4 false (.int .i64),.slot 8 false (.int .i64)],ex:=[(.ret,[]),(.exit 0,[])],pay:=.unit })]
theorem mz (x:AG [(false,(.sl true T5))]):Ab Tryz.prog (AC pu bg) (AI kZ) 3000 60 282 [(false,(.sl true T5))] [(false,(.int .i64))] x=DN x:=by kernel_rfl
def bj:List (FuncId×Sg):=(282,⟨[(false,(.sl true T5))],[(false,(.int .i64))],DN⟩)::bg
theorem bm:TabOK Tryz.prog (AC pu bj):=AE bh mz
theorem m6:M6 Tryz.prog (λf => !pu f) 1000 100 285=true:=by kernel_rfl
theorem m7 (a:Ty.den T5) (l:List (Ty.den T5)):Ab Tryz.prog (AC pu bj) (AI []) 3000 60 285 [(false,(.sl true T5))] [(false,(.sl true T5))] (a::l)=Aj (a::l):=by kernel_rfl
def bn:List (FuncId×Sg):=(285,⟨[(false,(.sl true T5))],[(false,(.sl true T5))],Aj⟩)::bj
theorem bo:TabOK Tryz.prog (AC pu bn):=Oo (gg:=true) (c:=T5) bm m6 rfl m7
end Go.Proofs.YthpkjfabdccpdaaGreat.Pt
