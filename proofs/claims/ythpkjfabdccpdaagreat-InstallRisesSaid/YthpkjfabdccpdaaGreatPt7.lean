/- The evaluator comes to each of the plain functions. No condition. -/
import Derived.Test.YthpkjfabdccpdaaGreatPt6
set_option linter.all false
namespace Go.Proofs.YthpkjfabdccpdaaGreat.Pt
open Go Go.Proofs.YthpkjfabdccpdaaGreat.Sv Go.Proofs.YthpkjfabdccpdaaGreat.Pl
set_option maxRecDepth 1000000
set_option linter.unusedVariables false
theorem lL (x:AF [(true,Gw),(false,(.int .i64)),(false,(.int .i64))]):Aj Tryz.prog (AC pu cY) (AK []) 3000 60 100 [(true,Gw),(false,(.int .i64)),(false,(.int .i64))] [(true,Gw),(false,(.int .i64)),(false,(.int .i64))] x=Jk x:=by kernel_rfl
def ca:List (FuncId×Sg):=(100,⟨[(true,Gw),(false,(.int .i64)),(false,(.int .i64))],[(true,Gw),(false,(.int .i64)),(false,(.int .i64))],Jk⟩)::cY
theorem cb:TabOK Tryz.prog (AC pu ca):=AG cZ lL
def ig:List (Nat×Nat×Nat×An):=[(171,5,30,.loop { keep:=[0,1,3,7,15,31,23,11,19,27,9,17,25,13,21,29,2,16,32,24,12,20,28,6,10,18,26,14,22,30],kb:=[0,1,12,10],pl:=[.slot 8 false (.int .i64)],ex:=[(.exit 0,[])],pay:=.unit })]
theorem lM (x:AF [(true,T4),(false,(.int .i64)),(false,(.sl true T3))]):Aj Tryz.prog (AC pu ca) (AK ig) 3000 60 171 [(true,T4),(false,(.int .i64)),(false,(.sl true T3))] [(true,T4)] x=DV x:=by kernel_rfl
def cc:List (FuncId×Sg):=(171,⟨[(true,T4),(false,(.int .i64)),(false,(.sl true T3))],[(true,T4)],DV⟩)::ca
theorem cd:TabOK Tryz.prog (AC pu cc):=AG cb lM
theorem mG (x:AF [(true,T4),(false,(.int .i64))]):Aj Tryz.prog (AC pu cc) (AK []) 3000 60 91 [(true,T4),(false,(.int .i64))] [(true,T4),(false,(.sl true T3)),(false,(.int .i64))] x=C0 x:=by kernel_rfl
def Uj:List (FuncId×Sg):=(91,⟨[(true,T4),(false,(.int .i64))],[(true,T4),(false,(.sl true T3)),(false,(.int .i64))],C0⟩)::cc
theorem W1:TabOK Tryz.prog (AC pu Uj):=AG cd mG
def lN:List (Nat×Nat×Nat×An):=[(199,1,31,.loop { keep:=[0,1,7,8,6],kb:=[0,1,25,21,26],pl:=[.slot 9 false (.int .i64),.box 2 [.lf (.int .i64),.ow true (.sl true T3) false],.box 3 [.lf (.int .i64)]],ex:=[(.exit 0,[(26,0,none)]),(.ret,[(26,2,some .ret)])],pay:=.unit }),(199,4,41,.loop { keep:=[0,1,7,15,11,9,13,4,8,16,12,6,10,14],kb:=[0,1,3,25,21,34,26],pl:=[.slot 5 false (.int .i64),.box 2 [.lf (.int .i64),.ow true (.sl true T3) false]],ex:=[(.exit 2,[(26,0,none)])],pay:=.unit }),(199,4,42,.loop { keep:=[0,1,7,15,11,9,13,4,8,16,12,6,10,14],kb:=[0,1,35,25,21,26],pl:=[.slot 5 false (.int .i64),.box 2 [.lf (.int .i64),.ow true (.sl true T3) false],.box 3 [.lf (.int .i64)]],ex:=[(.exit 2,[(26,0,none)]),(.ret,[(26,2,some .ret)])],pay:=.unit })]
theorem mH (x:AF [(true,T4),(false,(.int .i64)),(true,T3)]):Aj Tryz.prog (AC pu Uj) (AK lN) 3000 60 93 [(true,T4),(false,(.int .i64)),(true,T3)] [(true,T4),(false,(.int .i64))] x=BJ x:=by kernel_rfl
def Uk:List (FuncId×Sg):=(93,⟨[(true,T4),(false,(.int .i64)),(true,T3)],[(true,T4),(false,(.int .i64))],BJ⟩)::Uj
theorem W2:TabOK Tryz.prog (AC pu Uk):=AG W1 mH
theorem lO (x:AF [(true,T4),(false,(.int .i64))]):Aj Tryz.prog (AC pu Uk) (AK []) 3000 60 173 [(true,T4),(false,(.int .i64))] [(true,MI),(false,(.int .i64))] x=Fv x:=by kernel_rfl
def Ul:List (FuncId×Sg):=(173,⟨[(true,T4),(false,(.int .i64))],[(true,MI),(false,(.int .i64))],Fv⟩)::Uk
theorem W3:TabOK Tryz.prog (AC pu Ul):=AG W2 lO
def lQ:List (Nat×Nat×Nat×An):=[(94,3,10,.loop { keep:=[0,1,3,19,5,9,21,2,4,8,20,10,22],kb:=[0,1,2],pl:=[.slot 23 false (.int .i64),.map 4 (.int .i64) true MI],ex:=[(.exit 0,[])],pay:=.unit }),(94,10,22,.loop { keep:=[0,1,3,23,39,19,35,5,33,13,21,37,2,4,8,32,20,36,10,34,22,38],kb:=[0,1,4],pl:=[.slot 9 false (.int .i64),.slot 40 false (.int .i64),.box 2 [.lf (.int .i64),.ow true (.sl true T3) false,.ow true MI false,.lf (.int .i64)],.box 16 [.lf (.int .i64),.lf (.sl true (.sl true T3)),.ow true MI false,.lf (.int .i64)]],ex:=[(.exit 2,[]),(.ret,[])],pay:=.unit })]
theorem mI (x:AF [(true,Gw),(true,T4),(false,(.int .i64)),(false,(.int .i64))]):Aj Tryz.prog (AC pu Ul) (AK lQ) 3000 60 94 [(true,Gw),(true,T4),(false,(.int .i64)),(false,(.int .i64))] [(true,Gw),(false,(.int .i64))] x=A2 x:=by kernel_rfl
def Um:List (FuncId×Sg):=(94,⟨[(true,Gw),(true,T4),(false,(.int .i64)),(false,(.int .i64))],[(true,Gw),(false,(.int .i64))],A2⟩)::Ul
theorem W4:TabOK Tryz.prog (AC pu Um):=AG W3 mI
theorem mJ (x:AF [(true,Gw),(false,(.int .i64))]):Aj Tryz.prog (AC pu Um) (AK []) 3000 60 24 [(true,Gw),(false,(.int .i64))] [(true,Gw),(false,(.int .i64))] x=Cb x:=by kernel_rfl
def Un:List (FuncId×Sg):=(24,⟨[(true,Gw),(false,(.int .i64))],[(true,Gw),(false,(.int .i64))],Cb⟩)::Um
theorem W5:TabOK Tryz.prog (AC pu Un):=AG W4 mJ
theorem mK (x:AF [(true,Gw),(false,(.int .i64))]):Aj Tryz.prog (AC pu Un) (AK []) 3000 60 27 [(true,Gw),(false,(.int .i64))] [(true,Gw),(false,.bool),(false,(.int .i64))] x=Fw x:=by kernel_rfl
def Uo:List (FuncId×Sg):=(27,⟨[(true,Gw),(false,(.int .i64))],[(true,Gw),(false,.bool),(false,(.int .i64))],Fw⟩)::Un
theorem W6:TabOK Tryz.prog (AC pu Uo):=AG W5 mK
theorem mL (x:AF [(true,Gw),(false,(.int .i64))]):Aj Tryz.prog (AC pu Uo) (AK []) 3000 60 31 [(true,Gw),(false,(.int .i64))] [(false,(.int .i64)),(false,(.int .i64))] x=Ct x:=by kernel_rfl
def Uq:List (FuncId×Sg):=(31,⟨[(true,Gw),(false,(.int .i64))],[(false,(.int .i64)),(false,(.int .i64))],Ct⟩)::Uo
theorem W7:TabOK Tryz.prog (AC pu Uq):=AG W6 mL
def ii:List (Nat×Nat×Nat×An):=[(219,1,35,.loop { keep:=[0,1,7,5,6],kb:=[0,29,18,30],pl:=[.slot 8 false (.int .i64),.box 26 [.ow false (.int .i64) false]],ex:=[(.exit 0,[(30,0,none)])],pay:=.unit })]
theorem lR (x:AF [(true,Gw)]):Aj Tryz.prog (AC pu Uq) (AK ii) 3000 60 105 [(true,Gw)] [(false,(.sl false (.int .i64))),(false,(.int .i64))] x=HK x:=by kernel_rfl
def Ur:List (FuncId×Sg):=(105,⟨[(true,Gw)],[(false,(.sl false (.int .i64))),(false,(.int .i64))],HK⟩)::Uq
theorem W8:TabOK Tryz.prog (AC pu Ur):=AG W7 lR
def lS:List (Nat×Nat×Nat×An):=[(33,8,21,.loop { keep:=[0,1,15,23,11,19,17,13,21,4,16,24,12,20,10,14,22],kb:=[0],pl:=[.slot 3 false (.int .i64),.slot 5 false .bool,.slot 25 false (.int .i64),.slot 2 false (.int .i64)],ex:=[(.ret,[]),(.exit 1,[])],pay:=.unit })]
theorem mM (x:AF [(true,Gw)]):Aj Tryz.prog (AC pu Ur) (AK lS) 3000 60 33 [(true,Gw)] [(false,(.int .i64)),(false,(.int .i64))] x=HL x:=by kernel_rfl
def Us:List (FuncId×Sg):=(33,⟨[(true,Gw)],[(false,(.int .i64)),(false,(.int .i64))],HL⟩)::Ur
theorem W9:TabOK Tryz.prog (AC pu Us):=AG W8 mM
def lT:List (Nat×Nat×Nat×An):=[(23,3,10,.loop { keep:=[1,15,17,2,16,18,14],kb:=[],pl:=[.slot 0 false .bool,.slot 3 false (.int .i64),.box 6 [.lf (.int .i64),.lf (.sl true (.sl true T3)),.lf (.sl true MI),.lf (.int .i64)]],ex:=[(.exit 0,[]),(.ret,[])],pay:=.unit }),(23,1003003,10,.join { keep:=[0,1,3,15,17,2,16,18,14],kb:=[6],pl0:=[],pl1:=[.slot 24 false .bool],ex:=[(.exit 0,[])],pay:=.unit }),(23,1005008,10,.join { keep:=[1,3,15,17,2,16,18,14],kb:=[],pl0:=[.slot 0 false .bool,.box 6 [.lf (.int .i64),.lf (.sl true (.sl true T3)),.lf (.sl true MI),.lf (.int .i64)]],pl1:=[.slot 0 false .bool,.box 6 [.lf (.int .i64),.lf (.sl true (.sl true T3)),.lf (.sl true MI),.lf (.int .i64)]],ex:=[(.ret,[])],pay:=.unit }),(23,1006006,20,.join { keep:=[0,1,3,15,31,27,5,17,29,2,4,16,32,28,6,18,14,30],kb:=[16,6],pl0:=[],pl1:=[.slot 37 false .bool],ex:=[],pay:=.unit }),(23,1011011,27,.join { keep:=[0,1,3,7,15,47,39,11,43,9,17,49,41,45,2,8,16,48,40,44,10,18,42,14,46],kb:=[23,6],pl0:=[],pl1:=[.slot 67 false .bool],ex:=[],pay:=.unit })]
theorem mN (x:AF []):Aj Tryz.prog (AC pu Us) (AK lT) 3000 60 23 [] [(false,.bool)] x=EB x:=by kernel_rfl
def Ut:List (FuncId×Sg):=(23,⟨[],[(false,.bool)],EB⟩)::Us
theorem XA:TabOK Tryz.prog (AC pu Ut):=AG W9 mN
def lU:List (Nat×Nat×Nat×An):=[(199,1,27,.loop { keep:=[0,1,7,8,6],kb:=[0,17,21,22],pl:=[.slot 9 false (.int .i64),.box 1 [.lf (.int .i64)],.box 2 [.lf (.int .i64)]],ex:=[(.exit 0,[(22,0,none)])],pay:=.unit }),(199,4,37,.loop { keep:=[0,1,7,15,11,9,13,4,8,16,12,6,10,14],kb:=[0,17,21,22,30],pl:=[.slot 5 false (.int .i64),.box 1 [.lf (.int .i64)],.box 2 [.lf (.int .i64)]],ex:=[(.exit 2,[(22,0,none)])],pay:=.unit })]
theorem mO (x:AF [(true,T4)]):Aj Tryz.prog (AC pu Ut) (AK lU) 3000 60 41 [(true,T4)] [(false,(.int .i64)),(false,(.int .i64)),(false,(.int .i64))] x=CU x:=by kernel_rfl
def Uu:List (FuncId×Sg):=(41,⟨[(true,T4)],[(false,(.int .i64)),(false,(.int .i64)),(false,(.int .i64))],CU⟩)::Ut
theorem XB:TabOK Tryz.prog (AC pu Uu):=AG XA mO
theorem mQ (x:AF [(true,T4),(false,(.int .i64))]):VH Tryz.prog (AC pu Uu) (AK []) 3000 60 42 [(true,T4),(false,(.int .i64))] true T3 x=DJ x:=by kernel_rfl
def Uv:List (FuncId×Sg):=(4194346,⟨[(true,T4),(false,(.int .i64))],[(false,(.sl true T3))],DJ⟩)::Uu
theorem XC:TabOK Tryz.prog (AC pu Uv):=dx (f:=42) XB mQ
end Go.Proofs.YthpkjfabdccpdaaGreat.Pt
