/- The evaluator comes to each of the plain functions. No condition. -/
import Derived.Test.YthpkjfabdccpdaaGreatPt8
set_option linter.all false
namespace Go.Proofs.YthpkjfabdccpdaaGreat.Pt
open Go Go.Proofs.YthpkjfabdccpdaaGreat.Sv Go.Proofs.YthpkjfabdccpdaaGreat.Pl
set_option maxRecDepth 1000000
set_option linter.unusedVariables false
def ko:List (Nat×Nat×Nat×An):=[(197,4,27,.loop { keep:=[0,1,3,7,15,23,11,19,27,9,17,25,13,21,2,8,16,24,12,20,28,6,10,18,26,14,22],kb:=[0,1],pl:=[.slot 5 false (.int .i64),.slot 4 false .bool],ex:=[(.ret,[]),(.exit 0,[])],pay:=.unit })]
theorem oN (x:AG [(true,T9),(true,T9)]):AZ Tryz.prog (AC pu Vc) (AH ko) 3000 60 197 [(true,T9),(true,T9)] [(false,.bool)] x=GL x:=by kernel_rfl
def Vd:List (FuncId×Sg):=(197,⟨[(true,T9),(true,T9)],[(false,.bool)],GL⟩)::Vc
theorem YT:TabOK Tryz.prog (AC pu Vd):=AF YS oN
theorem oO (x:AG [(true,IK),(true,IK)]):AZ Tryz.prog (AC pu Vd) (AH []) 3000 60 119 [(true,IK),(true,IK)] [(false,.bool)] x=BS x:=by kernel_rfl
def Ve:List (FuncId×Sg):=(119,⟨[(true,IK),(true,IK)],[(false,.bool)],BS⟩)::Vd
theorem YU:TabOK Tryz.prog (AC pu Ve):=AF YT oO
def oQ:List (Nat×Nat×Nat×An):=[(38,10,42,.loop { keep:=[0,1,7,31,23,39,19,35,27,43,5,17,33,49,25,41,21,37,29,45,4,16,32,48,24,40,20,36,28,44,6,18,34,50,26,42,22,38,30,46],kb:=[0],pl:=[.slot 3 false (.int .i64),.slot 2 false (.int .i64),.slot 8 false (.int .i64)],ex:=[(.ret,[]),(.exit 0,[])],pay:=.unit })]
theorem pU (x:AG [(true,C9)]):AZ Tryz.prog (AC pu Ve) (AH oQ) 3000 60 38 [(true,C9)] [(false,(.int .i64)),(false,(.int .i64))] x=Db x:=by kernel_rfl
def Vf:List (FuncId×Sg):=(38,⟨[(true,C9)],[(false,(.int .i64)),(false,(.int .i64))],Db⟩)::Ve
theorem YV:TabOK Tryz.prog (AC pu Vf):=AF YU pU
theorem oR (x:AG [(true,C9)]):AZ Tryz.prog (AC pu Vf) (AH []) 3000 60 106 [(true,C9)] [(false,(.sl false (.int .i64))),(false,(.int .i64))] x=EI x:=by kernel_rfl
def Vg:List (FuncId×Sg):=(106,⟨[(true,C9)],[(false,(.sl false (.int .i64))),(false,(.int .i64))],EI⟩)::Vf
theorem YW:TabOK Tryz.prog (AC pu Vg):=AF YV oR
def oS:List (Nat×Nat×Nat×An):=[(95,5,13,.loop { keep:=[0,1,7,15,11,9,13,2,12,6,10,14],kb:=[0],pl:=[.slot 5 false (.int .i64),.slot 4 false (.int .i64),.slot 8 false (.int .i64)],ex:=[(.ret,[]),(.exit 0,[])],pay:=.unit })]
theorem pV (x:AG [(true,C9),(false,(.int .i64))]):AZ Tryz.prog (AC pu Vg) (AH oS) 3000 60 95 [(true,C9),(false,(.int .i64))] [(false,(.int .i64)),(false,(.int .i64))] x=Bu x:=by kernel_rfl
def Vh:List (FuncId×Sg):=(95,⟨[(true,C9),(false,(.int .i64))],[(false,(.int .i64)),(false,(.int .i64))],Bu⟩)::Vg
theorem YX:TabOK Tryz.prog (AC pu Vh):=AF YW pV
theorem oT (x:AG [(true,C9),(false,(.int .i64))]):AZ Tryz.prog (AC pu Vh) (AH []) 3000 60 101 [(true,C9),(false,(.int .i64))] [(false,(.int .i64)),(false,(.int .i64))] x=CV x:=by kernel_rfl
def Vi:List (FuncId×Sg):=(101,⟨[(true,C9),(false,(.int .i64))],[(false,(.int .i64)),(false,(.int .i64))],CV⟩)::Vh
theorem YY:TabOK Tryz.prog (AC pu Vi):=AF YX oT
theorem oU (x:AG [(false,(.int .i64)),(false,(.int .i64))]):AZ Tryz.prog (AC pu Vi) (AH []) 3000 60 177 [(false,(.int .i64)),(false,(.int .i64))] [(false,(.int .i64)),(false,(.int .i64))] x=GQ x:=by kernel_rfl
def Vj:List (FuncId×Sg):=(177,⟨[(false,(.int .i64)),(false,(.int .i64))],[(false,(.int .i64)),(false,(.int .i64))],GQ⟩)::Vi
theorem YZ:TabOK Tryz.prog (AC pu Vj):=AF YY oU
theorem oV (x:AG [(true,C9),(true,IL)]):AZ Tryz.prog (AC pu Vj) (AH []) 3000 60 103 [(true,C9),(true,IL)] [(false,.bool)] x=De x:=by kernel_rfl
def Vk:List (FuncId×Sg):=(103,⟨[(true,C9),(true,IL)],[(false,.bool)],De⟩)::Vj
theorem Ya:TabOK Tryz.prog (AC pu Vk):=AF YZ oV
theorem pW (x:AG [(true,C9),(false,(.int .i64))]):AZ Tryz.prog (AC pu Vk) (AH []) 3000 60 32 [(true,C9),(false,(.int .i64))] [(false,(.int .i64)),(false,(.int .i64))] x=Ep x:=by kernel_rfl
def Vl:List (FuncId×Sg):=(32,⟨[(true,C9),(false,(.int .i64))],[(false,(.int .i64)),(false,(.int .i64))],Ep⟩)::Vk
theorem Yb:TabOK Tryz.prog (AC pu Vl):=AF Ya pW
theorem oW (x:AG [(true,C9),(false,(.int .i64))]):AZ Tryz.prog (AC pu Vl) (AH []) 3000 60 104 [(true,C9),(false,(.int .i64))] [(false,.bool)] x=GR x:=by kernel_rfl
def Vm:List (FuncId×Sg):=(104,⟨[(true,C9),(false,(.int .i64))],[(false,.bool)],GR⟩)::Vl
theorem Yc:TabOK Tryz.prog (AC pu Vm):=AF Yb oW
theorem pX (x:AG [(true,C9),(false,(.int .i64))]):AZ Tryz.prog (AC pu Vm) (AH []) 3000 60 30 [(true,C9),(false,(.int .i64))] [(false,.bool),(false,(.int .i64))] x=Fq x:=by kernel_rfl
def Vn:List (FuncId×Sg):=(30,⟨[(true,C9),(false,(.int .i64))],[(false,.bool),(false,(.int .i64))],Fq⟩)::Vm
theorem Yd:TabOK Tryz.prog (AC pu Vn):=AF Yc pX
def oX:List (Nat×Nat×Nat×An):=[(96,3,8,.loop { keep:=[0,1,3,7,11,2,12,6,10],kb:=[0,1],pl:=[.slot 8 false (.int .i64),.box 5 [.lf (.int .i64),.ow true (.sl true T3) false]],ex:=[(.exit 0,[])],pay:=.unit }),(96,9,9,.loop { keep:=[0,1,3,7,11,2,8,12,6,10],kb:=[0,1],pl:=[.box 5 [.lf (.int .i64),.lf (.sl true (.sl true T3))]],ex:=[(.exit 2,[])],pay:=.unit,rel:=[(5,1)] })]
theorem pY (x:AG [(true,T4),(false,(.int .i64)),(false,(.sl true T3))]):AZ Tryz.prog (AC pu Vn) (AH oX) 3000 60 96 [(true,T4),(false,(.int .i64)),(false,(.sl true T3))] [(true,T4)] x=CW x:=by kernel_rfl
def Vo:List (FuncId×Sg):=(96,⟨[(true,T4),(false,(.int .i64)),(false,(.sl true T3))],[(true,T4)],CW⟩)::Vn
theorem Ye:TabOK Tryz.prog (AC pu Vo):=AF Yd pY
theorem pZ (x:AG [(true,T4),(false,(.int .i64))]):WI Tryz.prog (AC pu Vo) (AH []) 3000 60 42 [(true,T4),(false,(.int .i64))] true T3 x=EA x:=by kernel_rfl
def Vp:List (FuncId×Sg):=(4194346,⟨[(true,T4),(false,(.int .i64))],[(false,(.sl true T3))],EA⟩)::Vo
theorem Yf:TabOK Tryz.prog (AC pu Vp):=gS (f:=42) Ye pZ
theorem oY (x:AG [(true,T4),(false,(.int .i64))]):AZ Tryz.prog (AC pu Vp) (AH []) 3000 60 174 [(true,T4),(false,(.int .i64))] [(true,IL),(false,(.int .i64))] x=Br x:=by kernel_rfl
def Vq:List (FuncId×Sg):=(174,⟨[(true,T4),(false,(.int .i64))],[(true,IL),(false,(.int .i64))],Br⟩)::Vp
theorem Yg:TabOK Tryz.prog (AC pu Vq):=AF Yf oY
end Go.Proofs.YthpkjfabdccpdaaGreat.Pt
