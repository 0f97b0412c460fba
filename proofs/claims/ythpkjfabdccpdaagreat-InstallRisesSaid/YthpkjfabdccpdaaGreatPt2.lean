/- The evaluator comes to each of the plain functions. No condition. -/
import Derived.Test.YthpkjfabdccpdaaGreatPt1
set_option linter.all false
namespace Go.Proofs.YthpkjfabdccpdaaGreat.Pt
open Go Go.Proofs.YthpkjfabdccpdaaGreat.Sv Go.Proofs.YthpkjfabdccpdaaGreat.Pl
set_option maxRecDepth 1000000
set_option linter.unusedVariables false
def iD:List (Nat×Nat×Nat×An):=[(230,4,12,.loop { keep:=[0,1,15,11,5,9,13,4,12,10,14],kb:=[0,3,8,6],pl:=[.slot 7 false (.int .i64),.srow 6 true T5 false],ex:=[(.exit 0,[])],pay:=.unit })]
theorem jh (x:AF [(false,(.sl false (.sl true T2))),(false,(.sl false (.int .i64)))]):Aj Tryz.prog (AC pu Zc) (AK iD) 3000 60 230 [(false,(.sl false (.sl true T2))),(false,(.sl false (.int .i64)))] [(true,T9)] x=Cp x:=by kernel_rfl
def Ze:List (FuncId×Sg):=(230,⟨[(false,(.sl false (.sl true T2))),(false,(.sl false (.int .i64)))],[(true,T9)],Cp⟩)::Zc
theorem Zf:TabOK Tryz.prog (AC pu Ze):=AG Zd jh
theorem ji (x:AF [(false,(.sl false (.sl true T2)))]):Aj Tryz.prog (AC pu Ze) (AK []) 3000 60 226 [(false,(.sl false (.sl true T2)))] [(true,T9),(false,(.int .i64)),(false,(.int .i64))] x=GQ x:=by kernel_rfl
def Zg:List (FuncId×Sg):=(226,⟨[(false,(.sl false (.sl true T2)))],[(true,T9),(false,(.int .i64)),(false,(.int .i64))],GQ⟩)::Ze
theorem Zh:TabOK Tryz.prog (AC pu Zg):=AG Zf ji
theorem jj (x:AF [(false,.bool)]):Aj Tryz.prog (AC pu Zg) (AK []) 3000 60 227 [(false,.bool)] [(true,W0)] x=Cq x:=by kernel_rfl
def Zi:List (FuncId×Sg):=(227,⟨[(false,.bool)],[(true,W0)],Cq⟩)::Zg
theorem Zj:TabOK Tryz.prog (AC pu Zi):=AG Zh jj
theorem jk (x:AF [(false,(.sl false (.sl true T2))),(false,.bool)]):Aj Tryz.prog (AC pu Zi) (AK []) 3000 60 190 [(false,(.sl false (.sl true T2))),(false,.bool)] [(true,Oy),(false,(.int .i64)),(false,(.int .i64))] x=E2 x:=by kernel_rfl
def Zk:List (FuncId×Sg):=(190,⟨[(false,(.sl false (.sl true T2))),(false,.bool)],[(true,Oy),(false,(.int .i64)),(false,(.int .i64))],E2⟩)::Zi
theorem Zl:TabOK Tryz.prog (AC pu Zk):=AG Zj jk
theorem jl (x:AF [(true,T4),(false,(.int .i64)),(false,.bool)]):Aj Tryz.prog (AC pu Zk) (AK []) 3000 60 116 [(true,T4),(false,(.int .i64)),(false,.bool)] [(true,MI)] x=A9 x:=by kernel_rfl
def Zm:List (FuncId×Sg):=(116,⟨[(true,T4),(false,(.int .i64)),(false,.bool)],[(true,MI)],A9⟩)::Zk
theorem Zn:TabOK Tryz.prog (AC pu Zm):=AG Zl jl
def jm:List (Nat×Nat×Nat×An):=[(86,7,25,.loop { keep:=[0,1,3,7,15,23,11,5,17,25,13,21,2,4,8,16,24,12,20,6,10,26,14,22],kb:=[0,1],pl:=[.slot 9 false (.int .i64),.box 19 [.lf (.int .i64),.lf (.sl true (.sl true T3)),.ow true MI false,.lf (.int .i64)]],ex:=[(.exit 0,[])],pay:=.unit })]
theorem mA (x:AF [(true,T4)]):Aj Tryz.prog (AC pu Zm) (AK jm) 3000 60 86 [(true,T4)] [(true,Gw),(false,(.int .i64))] x=LI x:=by kernel_rfl
def Zo:List (FuncId×Sg):=(86,⟨[(true,T4)],[(true,Gw),(false,(.int .i64))],LI⟩)::Zm
theorem Zp:TabOK Tryz.prog (AC pu Zo):=AG Zn mA
theorem jo (x:AF [(false,.str)]):Aj Tryz.prog (AC pu Zo) (AK []) 3000 60 235 [(false,.str)] [(false,(.int .i64))] x=Eh x:=by kernel_rfl
def Zq:List (FuncId×Sg):=(235,⟨[(false,.str)],[(false,(.int .i64))],Eh⟩)::Zo
theorem Zr:TabOK Tryz.prog (AC pu Zq):=AG Zp jo
theorem jp (x:AF [(true,T2)]):Aj Tryz.prog (AC pu Zq) (AK []) 3000 60 204 [(true,T2)] [(false,(.int .i64))] x=CA x:=by kernel_rfl
def Zs:List (FuncId×Sg):=(204,⟨[(true,T2)],[(false,(.int .i64))],CA⟩)::Zq
theorem Zt:TabOK Tryz.prog (AC pu Zs):=AG Zr jp
def iE:List (Nat×Nat×Nat×An):=[(184,4,8,.loop { keep:=[0,7,11,9,8,10],kb:=[],pl:=[.slot 3 false (.int .i64),.slot 2 false (.int .i64),.slot 12 false (.int .i64)],ex:=[(.ret,[]),(.exit 0,[])],pay:=.unit })]
theorem jq (x:AF [(false,(.sl true T2))]):Aj Tryz.prog (AC pu Zs) (AK iE) 3000 60 184 [(false,(.sl true T2))] [(false,(.int .i64)),(false,(.int .i64))] x=BH x:=by kernel_rfl
def Zu:List (FuncId×Sg):=(184,⟨[(false,(.sl true T2))],[(false,(.int .i64)),(false,(.int .i64))],BH⟩)::Zs
theorem Zv:TabOK Tryz.prog (AC pu Zu):=AG Zt jq
theorem jr (x:AF [(true,T3)]):Aj Tryz.prog (AC pu Zu) (AK []) 3000 60 109 [(true,T3)] [(false,(.int .i64)),(false,(.int .i64))] x=Ff x:=by kernel_rfl
def Zw:List (FuncId×Sg):=(109,⟨[(true,T3)],[(false,(.int .i64)),(false,(.int .i64))],Ff⟩)::Zu
theorem Zx:TabOK Tryz.prog (AC pu Zw):=AG Zv jr
theorem jt (x:AF [(true,T3),(false,(.int .i64))]):Aj Tryz.prog (AC pu Zw) (AK []) 3000 60 172 [(true,T3),(false,(.int .i64))] [(false,(.int .i64))] x=Cl x:=by kernel_rfl
def Zy:List (FuncId×Sg):=(172,⟨[(true,T3),(false,(.int .i64))],[(false,(.int .i64))],Cl⟩)::Zw
theorem Zz:TabOK Tryz.prog (AC pu Zy):=AG Zx jt
def iF:List (Nat×Nat×Nat×An):=[(122,8,26,.loop { keep:=[0,1,15,23,11,19,27,5,17,25,13,21,29,16,24,12,20,28,18,26,14,22],kb:=[0],pl:=[.slot 3 false (.int .i64),.slot 2 false (.int .i64),.slot 4 false (.int .i64),.slot 30 false (.int .i64),.map 18 (.int .i64) false .bool],ex:=[(.exit 1,[])],pay:=.unit }),(122,14,44,.loop { keep:=[0,1,7,15,31,23,39,11,19,35,27,5,17,33,25,41,13,21,37,29,2,16,32,24,40,12,20,36,28,6,18,34,26,42,14,22,38,30],kb:=[0,30],pl:=[.slot 3 false (.int .i64),.slot 43 false (.int .i64),.slot 4 false (.int .i64),.map 18 (.int .i64) false .bool],ex:=[(.exit 1,[]),(.exit 3,[])],pay:=.unit })]
theorem ju (x:AF [(true,T4)]):Aj Tryz.prog (AC pu Zy) (AK iF) 3000 60 122 [(true,T4)] [(false,(.int .i64)),(false,(.int .i64)),(false,(.int .i64))] x=CN x:=by kernel_rfl
def Z0:List (FuncId×Sg):=(122,⟨[(true,T4)],[(false,(.int .i64)),(false,(.int .i64)),(false,(.int .i64))],CN⟩)::Zy
theorem Z1:TabOK Tryz.prog (AC pu Z0):=AG Zz ju
def iG:List (Nat×Nat×Nat×An):=[(180,2,6,.loop { keep:=[0,1,7,9,8],kb:=[0],pl:=[.slot 2 false (.int .i64),.slot 10 false (.int .i64)],ex:=[(.exit 0,[])],pay:=.unit }),(180,5,15,.loop { keep:=[0,1,7,15,11,9,13,4,8,16,12,10,14],kb:=[0,9],pl:=[.slot 17 false (.int .i64),.slot 2 false (.int .i64)],ex:=[(.exit 2,[])],pay:=.unit })]
theorem jv (x:AF [(true,T4)]):Aj Tryz.prog (AC pu Z0) (AK iG) 3000 60 180 [(true,T4)] [(false,(.int .i64))] x=D1 x:=by kernel_rfl
def Z3:List (FuncId×Sg):=(180,⟨[(true,T4)],[(false,(.int .i64))],D1⟩)::Z0
theorem Z4:TabOK Tryz.prog (AC pu Z3):=AG Z1 jv
theorem jw (x:AF [(true,T4),(false,(.int .i64))]):Aj Tryz.prog (AC pu Z3) (AK []) 3000 60 181 [(true,T4),(false,(.int .i64))] [(false,.bool)] x=Cm x:=by kernel_rfl
def Z5:List (FuncId×Sg):=(181,⟨[(true,T4),(false,(.int .i64))],[(false,.bool)],Cm⟩)::Z3
theorem Z6:TabOK Tryz.prog (AC pu Z5):=AG Z4 jw
end Go.Proofs.YthpkjfabdccpdaaGreat.Pt
