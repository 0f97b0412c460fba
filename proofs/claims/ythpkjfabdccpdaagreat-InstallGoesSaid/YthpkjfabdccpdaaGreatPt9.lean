/- The evaluator comes to each of the plain functions. No condition. -/
import Derived.Test.YthpkjfabdccpdaaGreatPt8
set_option linter.all false
namespace Go.Proofs.YthpkjfabdccpdaaGreat.Pt
open Go Go.Proofs.YthpkjfabdccpdaaGreat.Sv Go.Proofs.YthpkjfabdccpdaaGreat.Pl
set_option maxRecDepth 1000000
set_option linter.unusedVariables false
def kQ:List (Nat×Nat×Nat×An):=[(219,1,35,.loop { keep:=[0,1,7,5,6],kb:=[0,29,18,30],pl:=[.slot 8 false (.int .i64),.box 26 [.ow false (.int .i64) false]],ex:=[(.exit 0,[(30,0,none)])],pay:=.unit })]
theorem nr (x:AG [(true,Ge)]):Ac Tryz.prog (AC pu Vf) (AI kQ) 3000 60 105 [(true,Ge)] [(false,(.sl false (.int .i64))),(false,(.int .i64))] x=Hb x:=by kernel_rfl
def Vg:List (FuncId×Sg):=(105,⟨[(true,Ge)],[(false,(.sl false (.int .i64))),(false,(.int .i64))],Hb⟩)::Vf
theorem YL:TabOK Tryz.prog (AC pu Vg):=AF YK nr
def ns:List (Nat×Nat×Nat×An):=[(33,8,21,.loop { keep:=[0,1,15,23,11,19,17,13,21,4,16,24,12,20,10,14,22],kb:=[0],pl:=[.slot 3 false (.int .i64),.slot 5 false .bool,.slot 25 false (.int .i64),.slot 2 false (.int .i64)],ex:=[(.ret,[]),(.exit 1,[])],pay:=.unit })]
theorem og (x:AG [(true,Ge)]):Ac Tryz.prog (AC pu Vg) (AI ns) 3000 60 33 [(true,Ge)] [(false,(.int .i64)),(false,(.int .i64))] x=Hc x:=by kernel_rfl
def Vh:List (FuncId×Sg):=(33,⟨[(true,Ge)],[(false,(.int .i64)),(false,(.int .i64))],Hc⟩)::Vg
theorem YM:TabOK Tryz.prog (AC pu Vh):=AF YL og
def nu:List (Nat×Nat×Nat×An):=[(23,3,10,.loop { keep:=[1,15,17,2,16,18,14],kb:=[],pl:=[.slot 0 false .bool,.slot 3 false (.int .i64),.box 6 [.lf (.int .i64),.lf (.sl true (.sl true T3)),.lf (.sl true Lb),.lf (.int .i64)]],ex:=[(.exit 0,[]),(.ret,[])],pay:=.unit }),(23,1003003,10,.join { keep:=[0,1,3,15,17,2,16,18,14],kb:=[6],pl0:=[],pl1:=[.slot 24 false .bool],ex:=[(.exit 0,[])],pay:=.unit }),(23,1005008,10,.join { keep:=[1,3,15,17,2,16,18,14],kb:=[],pl0:=[.slot 0 false .bool,.box 6 [.lf (.int .i64),.lf (.sl true (.sl true T3)),.lf (.sl true Lb),.lf (.int .i64)]],pl1:=[.slot 0 false .bool,.box 6 [.lf (.int .i64),.lf (.sl true (.sl true T3)),.lf (.sl true Lb),.lf (.int .i64)]],ex:=[(.ret,[])],pay:=.unit }),(23,1006006,20,.join { keep:=[0,1,3,15,31,27,5,17,29,2,4,16,32,28,6,18,14,30],kb:=[16,6],pl0:=[],pl1:=[.slot 37 false .bool],ex:=[],pay:=.unit }),(23,1011011,27,.join { keep:=[0,1,3,7,15,47,39,11,43,9,17,49,41,45,2,8,16,48,40,44,10,18,42,14,46],kb:=[23,6],pl0:=[],pl1:=[.slot 67 false .bool],ex:=[],pay:=.unit })]
theorem oh (x:AG []):Ac Tryz.prog (AC pu Vh) (AI nu) 3000 60 23 [] [(false,.bool)] x=Di x:=by kernel_rfl
def Vi:List (FuncId×Sg):=(23,⟨[],[(false,.bool)],Di⟩)::Vh
theorem YN:TabOK Tryz.prog (AC pu Vi):=AF YM oh
def kS:List (Nat×Nat×Nat×An):=[(121,2,3,.loop { keep:=[0,1,3,4],kb:=[0],pl:=[.slot 5 false (.int .i64)],ex:=[(.exit 0,[])],pay:=.unit })]
theorem nv (x:AG [(false,(.sl true T2)),(true,T2)]):Ac Tryz.prog (AC pu Vi) (AI kS) 3000 60 121 [(false,(.sl true T2)),(true,T2)] [(false,(.sl true T2))] x=Fj x:=by kernel_rfl
def Vj:List (FuncId×Sg):=(121,⟨[(false,(.sl true T2)),(true,T2)],[(false,(.sl true T2))],Fj⟩)::Vi
theorem YO:TabOK Tryz.prog (AC pu Vj):=AF YN nv
def ny:List (Nat×Nat×Nat×An):=[(39,4,11,.loop { keep:=[0,1,3,11,13,2,4,12,10,14],kb:=[0],pl:=[.slot 5 false (.sl true T2),.slot 6 false (.int .i64)],ex:=[(.exit 0,[])],pay:=.unit }),(39,7,17,.loop { keep:=[0,1,3,15,11,17,13,2,4,16,12,6,10,18,14],kb:=[0,11],pl:=[.slot 7 false (.int .i64),.slot 5 false (.sl true T2)],ex:=[(.exit 2,[])],pay:=.unit }),(39,12,14,.loop { keep:=[0,1,3,11,5,13,2,4,12,6,10,14],kb:=[0,11],pl:=[.slot 9 false (.int .i64),.srow 8 true T2 false],ex:=[],pay:=.unit }),(39,7,16,.loop { keep:=[0,1,3,15,11,17,13,2,4,16,12,6,10,18,14],kb:=[0],pl:=[.slot 7 false (.int .i64),.slot 5 false (.sl true T2)],ex:=[(.exit 2,[])],pay:=.unit }),(39,12,13,.loop { keep:=[0,1,3,11,5,13,2,4,12,6,10,14],kb:=[0],pl:=[.slot 9 false (.int .i64),.srow 8 true T2 false],ex:=[(.exit 4,[])],pay:=.unit })]
theorem oi (x:AG [(true,T4)]):Ac Tryz.prog (AC pu Vj) (AI ny) 3000 60 39 [(true,T4)] [(false,(.sl true T2))] x=Fk x:=by kernel_rfl
def Vk:List (FuncId×Sg):=(39,⟨[(true,T4)],[(false,(.sl true T2))],Fk⟩)::Vj
theorem YP:TabOK Tryz.prog (AC pu Vk):=AF YO oi
theorem om (x:AG [(true,Ge),(false,(.int .i64))]):Ac Tryz.prog (AC pu Vk) (AI []) 3000 60 29 [(true,Ge),(false,(.int .i64))] [(false,.bool),(false,(.int .i64))] x=BU x:=by kernel_rfl
def Vl:List (FuncId×Sg):=(29,⟨[(true,Ge),(false,(.int .i64))],[(false,.bool),(false,(.int .i64))],BU⟩)::Vk
theorem YQ:TabOK Tryz.prog (AC pu Vl):=AF YP om
def nz:List (Nat×Nat×Nat×An):=[(40,2,2,.loop { keep:=[0,1],kb:=[],pl:=[.slot 5 false (.int .i64),.slot 4 false .bool],ex:=[(.ret,[]),(.exit 0,[])],pay:=.unit })]
theorem oq (x:AG [(false,(.sl true T2)),(false,(.sl true T2))]):Ac Tryz.prog (AC pu Vl) (AI nz) 3000 60 40 [(false,(.sl true T2)),(false,(.sl true T2))] [(false,.bool)] x=Dy x:=by kernel_rfl
def eV:List (FuncId×Sg):=(40,⟨[(false,(.sl true T2)),(false,(.sl true T2))],[(false,.bool)],Dy⟩)::Vl
theorem YR:TabOK Tryz.prog (AC pu eV):=AF YQ oq
def ot:List (Nat×Nat×Nat×An):=[(7,6,25,.loop { keep:=[0,1,7,31,23,19,35,27,5,17,33,25,21,29,2,16,24,20,28,6,18,34,26,22,30],kb:=[],pl:=[.slot 4 false .bool,.slot 8 false (.int .i64),.box 0 [.lf (.int .i64),.lf (.sl true (.sl true T3)),.lf (.sl true Lb),.lf (.int .i64)]],ex:=[(.ret,[]),(.exit 0,[])],pay:=.unit })]
theorem e7 (x:AG [(true,Ge),(false,(.sl false (.int .u8)))]):Ac Tryz.prog (AC pu eV) (AI ot) 3000 60 7 [(true,Ge),(false,(.sl false (.int .u8)))] [(false,.bool)] x=Cr x:=by kernel_rfl
theorem Ij {x:AG [(true,Ge),(false,(.sl false (.int .u8)))]} (h:Cr x=some true) {ps:List Pi.PV} (ha:H9 [(true,Ge),(false,(.sl false (.int .u8)))] x ps) {M:Pi.B8} {w:World} (hM : ∀ a v,M a=some v->a.spot=none/\w.cell? a=some v) {vs:List Value} (hr:Pi.RepL M Pi.mu0 ps vs) :
  Calls Tryz.prog 7 vs.toArray w λe w'=>e = .returned (.bool true)/\RowKit.Grown w w':=XO YR ((e7 x).trans h) ha hM hr
end Go.Proofs.YthpkjfabdccpdaaGreat.Pt
