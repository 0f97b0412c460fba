/- The evaluator comes to each of the plain functions. No condition. -/
import Derived.Test.YthpkjfabdccpdaaGreatPt5
set_option linter.all false
namespace Go.Proofs.YthpkjfabdccpdaaGreat.Pt
open Go Go.Proofs.YthpkjfabdccpdaaGreat.Sv Go.Proofs.YthpkjfabdccpdaaGreat.Pl
set_option maxRecDepth 1000000
set_option linter.unusedVariables false
theorem mz (x:AG [(false,(.int .i64)),(false,(.int .i64))]):Ac Tryz.prog (AC pu di) (AI []) 3000 60 260 [(false,(.int .i64)),(false,(.int .i64))] [(false,(.int .i64))] x=CI x:=by kernel_rfl
def dk:List (FuncId×Sg):=(260,⟨[(false,(.int .i64)),(false,(.int .i64))],[(false,(.int .i64))],CI⟩)::di
theorem dl:TabOK Tryz.prog (AC pu dk):=AF dj mz
def kB:List (Nat×Nat×Nat×An):=[(258,3,5,.loop { keep:=[0,3,7,6],kb:=[],pl:=[.slot 2 false (.int .i64),.slot 8 false (.int .i64)],ex:=[(.ret,[]),(.exit 0,[])],pay:=.unit })]
theorem m6 (x:AG [(false,(.sl false (.int .i64)))]):Ac Tryz.prog (AC pu dk) (AI kB) 3000 60 258 [(false,(.sl false (.int .i64)))] [(false,(.int .i64))] x=F5 x:=by kernel_rfl
def dm:List (FuncId×Sg):=(258,⟨[(false,(.sl false (.int .i64)))],[(false,(.int .i64))],F5⟩)::dk
theorem dq:TabOK Tryz.prog (AC pu dm):=AF dl m6
def kC:List (Nat×Nat×Nat×An):=[(240,7,24,.loop { keep:=[0,1,15,31,23,19,27,5,17,25,13,29,4,16,24,12,28,18,26,14,22,30],kb:=[0],pl:=[.slot 3 false (.int .i64),.slot 2 false (.int .i64),.slot 32 false (.int .i64)],ex:=[(.ret,[]),(.exit 0,[])],pay:=.unit }),(240,18,49,.loop { keep:=[0,1,15,31,63,23,71,55,19,67,51,27,59,5,9,17,65,25,57,13,69,53,29,61,4,8,16,32,64,24,56,12,68,52,28,60,18,66,26,58,14,22,70,54,30,62],kb:=[0],pl:=[.slot 3 false (.int .i64),.slot 2 false (.int .i64),.slot 72 false (.int .i64)],ex:=[(.ret,[]),(.exit 2,[])],pay:=.unit })]
theorem m7 (x:AG [(true,T9)]):Ac Tryz.prog (AC pu dm) (AI kC) 3000 60 240 [(true,T9)] [(false,(.int .i64)),(false,(.int .i64))] x=Db x:=by kernel_rfl
def dt:List (FuncId×Sg):=(240,⟨[(true,T9)],[(false,(.int .i64)),(false,(.int .i64))],Db⟩)::dm
theorem du:TabOK Tryz.prog (AC pu dt):=AF dq m7
theorem m8:LJ Tryz.prog (λf => !pu f) 1000 100 278=true:=by kernel_rfl
theorem m9 (a:Ty.den (.int .i64)) (l:List (Ty.den (.int .i64))):Ac Tryz.prog (AC pu dt) (AI []) 3000 60 278 [(false,(.sl false (.int .i64)))] [(false,(.sl false (.int .i64)))] (a::l)=Aw (a::l):=by kernel_rfl
def dv:List (FuncId×Sg):=(278,⟨[(false,(.sl false (.int .i64)))],[(false,(.sl false (.int .i64)))],Aw⟩)::dt
theorem dw:TabOK Tryz.prog (AC pu dv):=MF (gg:=false) (c:=(.int .i64)) du m8 rfl m9
theorem nA:NB Tryz.prog (λf => !pu f) 1000 100 278=true:=by kernel_rfl
theorem nB (a:Ty.den (.int .i64)) (l:List (Ty.den (.int .i64))):OZ Tryz.prog (AC pu dv) (AI []) 3000 60 278 [(false,(.sl false (.int .i64)))] false (.int .i64) (a::l)=Aw (a::l):=by kernel_rfl
def dx:List (FuncId×Sg):=(278+G2,⟨[(false,(.sl false (.int .i64)))],[(false,(.sl false (.int .i64)))],Aw⟩)::dv
theorem dy:TabOK Tryz.prog (AC pu dx):=MG (gg:=false) (c:=(.int .i64)) dw nA rfl (λa l y h=>MH h) nB
theorem nC (x:AG [(false,(.int .i64)),(false,(.int .i64)),(true,kw)]):V5 Tryz.prog (AC pu dx) (AI []) 3000 60 290 [(false,(.int .i64)),(false,(.int .i64)),(true,kw)] [(false,.bool)] x=Bd x:=by kernel_rfl
def dz:List (FuncId×Sg):=(3146018,⟨[(false,(.int .i64)),(false,(.int .i64)),(true,kw)],[(false,.bool)],Bd⟩)::dx
theorem d6:TabOK Tryz.prog (AC pu dz):=f6 (f:=290) dy nC
def kD:List (Nat×Nat×Nat×An):=[(279,13,63,.loop { keep:=[0,1,3,7,31,63,47,55,11,19,35,51,27,43,59,9,17,33,49,25,41,57,13,21,37,53,29,45,61,2,4,8,32,48,24,40,56,12,20,36,52,28,44,60,6,18,34,50,26,42,58,14,38,54,30,46,62],kb:=[0,1,33,52],pl:=[.slot 5 false (.int .i64),.slot 10 false (.int .i64),.box 2 [.kp 33,.ow false (.int .i64) false,.lf (.int .i64)]],ex:=[(.exit 0,[])],pay:=.unit })]
theorem nD (x:AG [(true,T7),(true,T5)]):Ac Tryz.prog (AC pu dz) (AI kD) 3000 60 279 [(true,T7),(true,T5)] [(true,T7),(false,(.int .i64)),(false,(.int .i64))] x=CL x:=by kernel_rfl
def d7:List (FuncId×Sg):=(279,⟨[(true,T7),(true,T5)],[(true,T7),(false,(.int .i64)),(false,(.int .i64))],CL⟩)::dz
theorem d8:TabOK Tryz.prog (AC pu d7):=AF d6 nD
def kF:List (Nat×Nat×Nat×An):=[(277,0,45,.loop { keep:=[0,1],kb:=[39,35,43,9,13,44],pl:=[.box 0 [.ow true T2 false],.box 1 [.ow false (.int .i64) false]],ex:=[(.ret,[(44,0,none)])],pay:=.unit }),(256,3,47,.loop { keep:=[0,1,11,13,4,12,10,14],kb:=[0,1,39,27,13,30],pl:=[.slot 15 false (.int .i64),.srow 5 true T5 true],ex:=[(.exit 0,[])],pay:=.unit }),(277,0,72,.loop { keep:=[0,1],kb:=[47,39,71,9,13,53,66,70,30],pl:=[.box 0 [.ow true T2 false],.box 1 [.ow false (.int .i64) false],.box 62 [.kp 30,.ow false (.int .i64) true,.lf (.sl true T5),.lf (.sl false (.int .i64)),.lf (.int .i64)]],ex:=[(.ret,[(71,0,none)])],pay:=.unit })]
theorem nE (x:AG [(false,(.sl false (.sl true T2)))]):Ac Tryz.prog (AC pu d7) (AI kF) 3000 60 241 [(false,(.sl false (.sl true T2)))] [(false,(.sl true T2)),(false,(.sl false (.int .i64))),(false,(.int .i64))] x=Gt x:=by kernel_rfl
def d9:List (FuncId×Sg):=(241,⟨[(false,(.sl false (.sl true T2)))],[(false,(.sl true T2)),(false,(.sl false (.int .i64))),(false,(.int .i64))],Gt⟩)::d7
theorem eA:TabOK Tryz.prog (AC pu d9):=AF d8 nE
theorem nF (x:AG [(true,PN)]):Ac Tryz.prog (AC pu d9) (AI []) 3000 60 280 [(true,PN)] [(false,(.int .i64))] x=Dr x:=by kernel_rfl
def eB:List (FuncId×Sg):=(280,⟨[(true,PN)],[(false,(.int .i64))],Dr⟩)::d9
theorem eC:TabOK Tryz.prog (AC pu eB):=AF eA nF
theorem nG (x:AG [(true,T2)]):Ac Tryz.prog (AC pu eB) (AI []) 3000 60 307 [(true,T2)] [(true,T2)] x=A3 x:=by kernel_rfl
def eE:List (FuncId×Sg):=(307,⟨[(true,T2)],[(true,T2)],A3⟩)::eB
theorem eF:TabOK Tryz.prog (AC pu eE):=AF eC nG
def kG:List (Nat×Nat×Nat×An):=[(262,5,24,.loop { keep:=[0,1,15,19,17,2,8,16,20,18,14],kb:=[],pl:=[.slot 7 false (.int .i64),.slot 21 false (.int .i64),.slot 6 false (.int .i64),.box 19 [.lf .bool,.lf .str,.lf .bool],.box 0 [.ow true T2 false]],ex:=[(.ret,[]),(.exit 0,[])],pay:=.unit })]
theorem nH (x:AG [(false,(.sl true T2)),(false,.bool)]):Ac Tryz.prog (AC pu eE) (AI kG) 3000 60 242 [(false,(.sl true T2)),(false,.bool)] [(false,(.sl true T2)),(false,(.int .i64)),(false,(.int .i64))] x=EH x:=by kernel_rfl
def eG:List (FuncId×Sg):=(242,⟨[(false,(.sl true T2)),(false,.bool)],[(false,(.sl true T2)),(false,(.int .i64)),(false,(.int .i64))],EH⟩)::eE
theorem eI:TabOK Tryz.prog (AC pu eG):=AF eF nH
def kH:List (Nat×Nat×Nat×An):=[(244,4,9,.loop { keep:=[0,1,7,11,9,13,8,12,10],kb:=[],pl:=[.slot 4 false .bool,.slot 14 false (.int .i64)],ex:=[(.ret,[]),(.exit 0,[])],pay:=.unit })]
theorem nI (x:AG [(false,(.sl true T2)),(false,(.sl true T2))]):Ac Tryz.prog (AC pu eG) (AI kH) 3000 60 244 [(false,(.sl true T2)),(false,(.sl true T2))] [(false,.bool)] x=Du x:=by kernel_rfl
def eJ:List (FuncId×Sg):=(244,⟨[(false,(.sl true T2)),(false,(.sl true T2))],[(false,.bool)],Du⟩)::eG
theorem eK:TabOK Tryz.prog (AC pu eJ):=AF eI nI
def kI:List (Nat×Nat×Nat×An):=[(214,6,18,.loop { keep:=[0,1,3,15,23,19,17,25,21,2,4,16,24,20,18,26,14],kb:=[0],pl:=[.slot 27 false (.int .i64),.slot 5 false (.int .i64)],ex:=[(.exit 0,[])],pay:=.unit })]
theorem nJ (x:AG [(true,IE)]):Ac Tryz.prog (AC pu eJ) (AI kI) 3000 60 214 [(true,IE)] [(false,(.int .i64))] x=Ed x:=by kernel_rfl
def eL:List (FuncId×Sg):=(214,⟨[(true,IE)],[(false,(.int .i64))],Ed⟩)::eJ
theorem eM:TabOK Tryz.prog (AC pu eL):=AF eK nJ
def kJ:List (Nat×Nat×Nat×An):=[(215,6,17,.loop { keep:=[0,1,3,15,11,19,5,9,17,13,2,4,12,10,18,14],kb:=[0],pl:=[.slot 20 false (.int .i64),.slot 6 false (.int .i64)],ex:=[(.exit 0,[])],pay:=.unit })]
theorem nK (x:AG [(true,T9)]):Ac Tryz.prog (AC pu eL) (AI kJ) 3000 60 215 [(true,T9)] [(false,(.int .i64)),(false,(.int .i64))] x=F6 x:=by kernel_rfl
def eN:List (FuncId×Sg):=(215,⟨[(true,T9)],[(false,(.int .i64)),(false,(.int .i64))],F6⟩)::eL
theorem eO:TabOK Tryz.prog (AC pu eN):=AF eM nK
end Go.Proofs.YthpkjfabdccpdaaGreat.Pt
