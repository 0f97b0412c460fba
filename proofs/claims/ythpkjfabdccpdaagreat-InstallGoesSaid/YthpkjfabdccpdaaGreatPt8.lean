/- The evaluator comes to each of the plain functions. No condition. -/
import Derived.Test.YthpkjfabdccpdaaGreatPt7
set_option linter.all false
namespace Go.Proofs.YthpkjfabdccpdaaGreat.Pt
open Go Go.Proofs.YthpkjfabdccpdaaGreat.Sv Go.Proofs.YthpkjfabdccpdaaGreat.Pl
set_option maxRecDepth 1000000
set_option linter.unusedVariables false
theorem nX (x:AG [(true,T4),(false,(.int .i64))]):Ac Tryz.prog (AC pu VQ) (AI []) 3000 60 108 [(true,T4),(false,(.int .i64))] [(false,.bool),(false,(.int .i64))] x=FO x:=by kernel_rfl
def VS:List (FuncId×Sg):=(108,⟨[(true,T4),(false,(.int .i64))],[(false,.bool),(false,(.int .i64))],FO⟩)::VQ
theorem X7:TabOK Tryz.prog (AC pu VS):=AF X6 nX
theorem nY (x:AG [(true,Wj)]):Ac Tryz.prog (AC pu VS) (AI []) 3000 60 168 [(true,Wj)] [(false,.bool)] x=Cc x:=by kernel_rfl
def VT:List (FuncId×Sg):=(168,⟨[(true,Wj)],[(false,.bool)],Cc⟩)::VS
theorem X8:TabOK Tryz.prog (AC pu VT):=AF X7 nY
def nZ:List (Nat×Nat×Nat×An):=[(90,2,11,.loop { keep:=[0,1,7,11,5,9,8,12,6,10],kb:=[0],pl:=[.slot 13 false (.int .i64),.slot 2 false .bool],ex:=[(.ret,[]),(.exit 0,[])],pay:=.unit })]
theorem oX (x:AG [(true,Wj)]):Ac Tryz.prog (AC pu VT) (AI nZ) 3000 60 90 [(true,Wj)] [(false,.bool)] x=Bq x:=by kernel_rfl
def VU:List (FuncId×Sg):=(90,⟨[(true,Wj)],[(false,.bool)],Bq⟩)::VT
theorem X9:TabOK Tryz.prog (AC pu VU):=AF X8 oX
theorem na:LJ Tryz.prog (λf => !pu f) 1000 100 176=true:=by kernel_rfl
theorem ng (a:Ty.den Lb) (l:List (Ty.den Lb)):Ac Tryz.prog (AC pu VU) (AI []) 3000 60 176 [(false,(.sl true Lb))] [(false,(.sl true Lb))] (a::l)=BQ (a::l):=by kernel_rfl
def VV:List (FuncId×Sg):=(176,⟨[(false,(.sl true Lb))],[(false,(.sl true Lb))],BQ⟩)::VU
theorem YA:TabOK Tryz.prog (AC pu VV):=MF (gg:=true) (c:=Lb) X9 na rfl ng
theorem nh:NB Tryz.prog (λf => !pu f) 1000 100 176=true:=by kernel_rfl
theorem ni (a:Ty.den Lb) (l:List (Ty.den Lb)):OZ Tryz.prog (AC pu VV) (AI []) 3000 60 176 [(false,(.sl true Lb))] true Lb (a::l)=BQ (a::l):=by kernel_rfl
def VW:List (FuncId×Sg):=(176+G2,⟨[(false,(.sl true Lb))],[(false,(.sl true Lb))],BQ⟩)::VV
theorem YB:TabOK Tryz.prog (AC pu VW):=MG (gg:=true) (c:=Lb) YA nh rfl (λa l y h=>MH h) ni
theorem nj (x:AG [(true,Ge),(false,(.int .i64)),(false,(.int .i64))]):Ac Tryz.prog (AC pu VW) (AI []) 3000 60 100 [(true,Ge),(false,(.int .i64)),(false,(.int .i64))] [(true,Ge),(false,(.int .i64)),(false,(.int .i64))] x=Gw x:=by kernel_rfl
def VX:List (FuncId×Sg):=(100,⟨[(true,Ge),(false,(.int .i64)),(false,(.int .i64))],[(true,Ge),(false,(.int .i64)),(false,(.int .i64))],Gw⟩)::VW
theorem YC:TabOK Tryz.prog (AC pu VX):=AF YB nj
def kP:List (Nat×Nat×Nat×An):=[(171,5,30,.loop { keep:=[0,1,3,7,15,31,23,11,19,27,9,17,25,13,21,29,2,16,32,24,12,20,28,6,10,18,26,14,22,30],kb:=[0,1,12,10],pl:=[.slot 8 false (.int .i64)],ex:=[(.exit 0,[])],pay:=.unit })]
theorem nk (x:AG [(true,T4),(false,(.int .i64)),(false,(.sl true T3))]):Ac Tryz.prog (AC pu VX) (AI kP) 3000 60 171 [(true,T4),(false,(.int .i64)),(false,(.sl true T3))] [(true,T4)] x=Dh x:=by kernel_rfl
def VY:List (FuncId×Sg):=(171,⟨[(true,T4),(false,(.int .i64)),(false,(.sl true T3))],[(true,T4)],Dh⟩)::VX
theorem YD:TabOK Tryz.prog (AC pu VY):=AF YC nk
theorem oY (x:AG [(true,T4),(false,(.int .i64))]):Ac Tryz.prog (AC pu VY) (AI []) 3000 60 91 [(true,T4),(false,(.int .i64))] [(true,T4),(false,(.sl true T3)),(false,(.int .i64))] x=DD x:=by kernel_rfl
def VZ:List (FuncId×Sg):=(91,⟨[(true,T4),(false,(.int .i64))],[(true,T4),(false,(.sl true T3)),(false,(.int .i64))],DD⟩)::VY
theorem YE:TabOK Tryz.prog (AC pu VZ):=AF YD oY
def nl:List (Nat×Nat×Nat×An):=[(199,1,31,.loop { keep:=[0,1,7,8,6],kb:=[0,1,25,21,26],pl:=[.slot 9 false (.int .i64),.box 2 [.lf (.int .i64),.ow true (.sl true T3) false],.box 3 [.lf (.int .i64)]],ex:=[(.exit 0,[(26,0,none)]),(.ret,[(26,2,some .ret)])],pay:=.unit }),(199,4,41,.loop { keep:=[0,1,7,15,11,9,13,4,8,16,12,6,10,14],kb:=[0,1,3,25,21,34,26],pl:=[.slot 5 false (.int .i64),.box 2 [.lf (.int .i64),.ow true (.sl true T3) false]],ex:=[(.exit 2,[(26,0,none)])],pay:=.unit }),(199,4,42,.loop { keep:=[0,1,7,15,11,9,13,4,8,16,12,6,10,14],kb:=[0,1,35,25,21,26],pl:=[.slot 5 false (.int .i64),.box 2 [.lf (.int .i64),.ow true (.sl true T3) false],.box 3 [.lf (.int .i64)]],ex:=[(.exit 2,[(26,0,none)]),(.ret,[(26,2,some .ret)])],pay:=.unit })]
theorem oZ (x:AG [(true,T4),(false,(.int .i64)),(true,T3)]):Ac Tryz.prog (AC pu VZ) (AI nl) 3000 60 93 [(true,T4),(false,(.int .i64)),(true,T3)] [(true,T4),(false,(.int .i64))] x=BO x:=by kernel_rfl
def Va:List (FuncId×Sg):=(93,⟨[(true,T4),(false,(.int .i64)),(true,T3)],[(true,T4),(false,(.int .i64))],BO⟩)::VZ
theorem YF:TabOK Tryz.prog (AC pu Va):=AF YE oZ
theorem np (x:AG [(true,T4),(false,(.int .i64))]):Ac Tryz.prog (AC pu Va) (AI []) 3000 60 173 [(true,T4),(false,(.int .i64))] [(true,Lb),(false,(.int .i64))] x=GK x:=by kernel_rfl
def Vb:List (FuncId×Sg):=(173,⟨[(true,T4),(false,(.int .i64))],[(true,Lb),(false,(.int .i64))],GK⟩)::Va
theorem YG:TabOK Tryz.prog (AC pu Vb):=AF YF np
def nq:List (Nat×Nat×Nat×An):=[(94,3,10,.loop { keep:=[0,1,3,19,5,9,21,2,4,8,20,10,22],kb:=[0,1,2],pl:=[.slot 23 false (.int .i64),.map 4 (.int .i64) true Lb],ex:=[(.exit 0,[])],pay:=.unit }),(94,10,22,.loop { keep:=[0,1,3,23,39,19,35,5,33,13,21,37,2,4,8,32,20,36,10,34,22,38],kb:=[0,1,4],pl:=[.slot 9 false (.int .i64),.slot 40 false (.int .i64),.box 2 [.lf (.int .i64),.ow true (.sl true T3) false,.ow true Lb false,.lf (.int .i64)],.box 16 [.lf (.int .i64),.lf (.sl true (.sl true T3)),.ow true Lb false,.lf (.int .i64)]],ex:=[(.exit 2,[]),(.ret,[])],pay:=.unit })]
theorem oa (x:AG [(true,Ge),(true,T4),(false,(.int .i64)),(false,(.int .i64))]):Ac Tryz.prog (AC pu Vb) (AI nq) 3000 60 94 [(true,Ge),(true,T4),(false,(.int .i64)),(false,(.int .i64))] [(true,Ge),(false,(.int .i64))] x=A4 x:=by kernel_rfl
def Vc:List (FuncId×Sg):=(94,⟨[(true,Ge),(true,T4),(false,(.int .i64)),(false,(.int .i64))],[(true,Ge),(false,(.int .i64))],A4⟩)::Vb
theorem YH:TabOK Tryz.prog (AC pu Vc):=AF YG oa
theorem oc (x:AG [(true,Ge),(false,(.int .i64))]):Ac Tryz.prog (AC pu Vc) (AI []) 3000 60 24 [(true,Ge),(false,(.int .i64))] [(true,Ge),(false,(.int .i64))] x=DV x:=by kernel_rfl
def Vd:List (FuncId×Sg):=(24,⟨[(true,Ge),(false,(.int .i64))],[(true,Ge),(false,(.int .i64))],DV⟩)::Vc
theorem YI:TabOK Tryz.prog (AC pu Vd):=AF YH oc
theorem od (x:AG [(true,Ge),(false,(.int .i64))]):Ac Tryz.prog (AC pu Vd) (AI []) 3000 60 27 [(true,Ge),(false,(.int .i64))] [(true,Ge),(false,.bool),(false,(.int .i64))] x=BS x:=by kernel_rfl
def Ve:List (FuncId×Sg):=(27,⟨[(true,Ge),(false,(.int .i64))],[(true,Ge),(false,.bool),(false,(.int .i64))],BS⟩)::Vd
theorem YJ:TabOK Tryz.prog (AC pu Ve):=AF YI od
theorem oe (x:AG [(true,Ge),(false,(.int .i64))]):Ac Tryz.prog (AC pu Ve) (AI []) 3000 60 31 [(true,Ge),(false,(.int .i64))] [(false,(.int .i64)),(false,(.int .i64))] x=Gc x:=by kernel_rfl
def Vf:List (FuncId×Sg):=(31,⟨[(true,Ge),(false,(.int .i64))],[(false,(.int .i64)),(false,(.int .i64))],Gc⟩)::Ve
theorem YK:TabOK Tryz.prog (AC pu Vf):=AF YJ oe
end Go.Proofs.YthpkjfabdccpdaaGreat.Pt
