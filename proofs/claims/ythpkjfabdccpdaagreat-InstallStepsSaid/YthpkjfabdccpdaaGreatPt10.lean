/- The evaluator comes to each of the plain functions. No condition. -/
import Derived.Test.YthpkjfabdccpdaaGreatPt9
set_option linter.all false
namespace Go.Proofs.YthpkjfabdccpdaaGreat.Pt
open Go Go.Proofs.YthpkjfabdccpdaaGreat.Sv Go.Proofs.YthpkjfabdccpdaaGreat.Pl
set_option maxRecDepth 1000000
set_option linter.unusedVariables false
def oZ:List (Nat×Nat×Nat×An):=[(97,3,98,.loop { keep:=[0,1,3,7,13,2,4,12,6,14],kb:=[0,1,92,90,70,54],pl:=[.slot 8 false (.int .i64),.box 91 [.lf (.int .i64),.lf (.sl true (.sl true T3)),.ow true IL false,.lf (.int .i64)]],ex:=[(.exit 0,[])],pay:=.unit }),(97,3,73,.loop { keep:=[0,1,3,7,13,2,4,12,6,14],kb:=[0,1,67,65,54],pl:=[.slot 8 false (.int .i64),.box 66 [.lf (.int .i64),.lf (.sl true (.sl true T3)),.ow true IL false,.lf (.int .i64)]],ex:=[(.exit 0,[])],pay:=.unit }),(97,7,116,.loop { keep:=[0,1,3,7,15,23,27,9,17,25,13,21,29,2,4,8,16,24,12,28,6,10,18,26,14,22,30],kb:=[0,1,91,92,90,70,54],pl:=[.slot 11 false (.int .i64),.box 112 [.lf (.int .i64),.lf (.sl false (.sl true T2)),.lf (.sl false (.int .i64)),.lf (.sl true T5),.lf (.sl false (.int .i64)),.lf (.int .i64),.lf .bool,.lf .str,.lf .bool,.lf (.sl true T2),.lf (.int .i64)]],ex:=[(.exit 2,[])],pay:=.unit }),(97,7,91,.loop { keep:=[0,1,3,7,15,23,27,9,17,25,13,21,29,2,4,8,16,24,12,28,6,10,18,26,14,22,30],kb:=[0,1,67,65,66,54],pl:=[.slot 11 false (.int .i64),.box 87 [.lf (.int .i64),.lf (.sl false (.sl true T2)),.lf (.sl false (.int .i64)),.lf (.sl true T5),.lf (.sl false (.int .i64)),.lf (.int .i64),.lf .bool,.lf .str,.lf .bool,.lf (.sl true T2),.lf (.int .i64)]],ex:=[(.exit 2,[])],pay:=.unit }),(97,7,117,.loop { keep:=[0,1,3,7,15,23,27,9,17,25,13,21,29,2,4,8,16,24,12,28,6,10,18,26,14,22,30],kb:=[0,1,91,92,98,90,70,54],pl:=[.slot 11 false (.int .i64),.box 113 [.lf (.int .i64),.lf (.sl false (.sl true T2)),.lf (.sl false (.int .i64)),.lf (.sl true T5),.lf (.sl false (.int .i64)),.lf (.int .i64),.lf .bool,.lf .str,.lf .bool,.lf (.sl true T2),.lf (.int .i64)]],ex:=[(.exit 2,[])],pay:=.unit }),(97,7,92,.loop { keep:=[0,1,3,7,15,23,27,9,17,25,13,21,29,2,4,8,16,24,12,28,6,10,18,26,14,22,30],kb:=[0,1,67,65,73,66,54],pl:=[.slot 11 false (.int .i64),.box 88 [.lf (.int .i64),.lf (.sl false (.sl true T2)),.lf (.sl false (.int .i64)),.lf (.sl true T5),.lf (.sl false (.int .i64)),.lf (.int .i64),.lf .bool,.lf .str,.lf .bool,.lf (.sl true T2),.lf (.int .i64)]],ex:=[(.exit 2,[])],pay:=.unit })]
theorem pf (x:AG [(true,C9),(false,(.int .i64))]):AZ Tryz.prog (AC pu Vq) (AH oZ) 3000 60 25 [(true,C9),(false,(.int .i64))] [(true,C9),(false,(.int .i64))] x=Cm x:=by kernel_rfl
def Vr:List (FuncId×Sg):=(25,⟨[(true,C9),(false,(.int .i64))],[(true,C9),(false,(.int .i64))],Cm⟩)::Vq
theorem Yh:TabOK Tryz.prog (AC pu Vr):=AF Yg pf
def oa:List (Nat×Nat×Nat×An):=[(40,2,2,.loop { keep:=[0,1],kb:=[],pl:=[.slot 5 false (.int .i64),.slot 4 false .bool],ex:=[(.ret,[]),(.exit 0,[])],pay:=.unit })]
theorem pj (x:AG [(false,(.sl true T2)),(false,(.sl true T2))]):AZ Tryz.prog (AC pu Vr) (AH oa) 3000 60 40 [(false,(.sl true T2)),(false,(.sl true T2))] [(false,.bool)] x=Dw x:=by kernel_rfl
def Vs:List (FuncId×Sg):=(40,⟨[(false,(.sl true T2)),(false,(.sl true T2))],[(false,.bool)],Dw⟩)::Vr
theorem Yi:TabOK Tryz.prog (AC pu Vs):=AF Yh pj
theorem oc (x:AG [(true,T3),(true,T3)]):AZ Tryz.prog (AC pu Vs) (AH []) 3000 60 124 [(true,T3),(true,T3)] [(false,.bool)] x=EJ x:=by kernel_rfl
def Vt:List (FuncId×Sg):=(124,⟨[(true,T3),(true,T3)],[(false,.bool)],EJ⟩)::Vs
theorem Yj:TabOK Tryz.prog (AC pu Vt):=AF Yi oc
def od:List (Nat×Nat×Nat×An):=[(43,4,7,.loop { keep:=[0,1,7,9,8,6,10],kb:=[],pl:=[.slot 5 false (.int .i64),.slot 4 false .bool],ex:=[(.ret,[]),(.exit 0,[])],pay:=.unit })]
theorem pk (x:AG [(false,(.sl true T3)),(false,(.sl true T3))]):AZ Tryz.prog (AC pu Vt) (AH od) 3000 60 43 [(false,(.sl true T3)),(false,(.sl true T3))] [(false,.bool)] x=Dx x:=by kernel_rfl
def Vu:List (FuncId×Sg):=(43,⟨[(false,(.sl true T3)),(false,(.sl true T3))],[(false,.bool)],Dx⟩)::Vt
theorem Yk:TabOK Tryz.prog (AC pu Vu):=AF Yj pk
def oe:List (Nat×Nat×Nat×An):=[(98,4,18,.loop { keep:=[0,1,3,7,15,11,19,9,17,13,2,8,16,12,6,10,18,14],kb:=[0,1],pl:=[.slot 5 false (.int .i64),.slot 4 false .bool],ex:=[(.ret,[]),(.exit 0,[])],pay:=.unit })]
theorem pn (x:AG [(true,T4),(true,T4)]):AZ Tryz.prog (AC pu Vu) (AH oe) 3000 60 98 [(true,T4),(true,T4)] [(false,.bool)] x=GT x:=by kernel_rfl
def Vv:List (FuncId×Sg):=(98,⟨[(true,T4),(true,T4)],[(false,.bool)],GT⟩)::Vu
theorem Yl:TabOK Tryz.prog (AC pu Vv):=AF Yk pn
theorem po (x:AG [(true,IL),(true,IL)]):AZ Tryz.prog (AC pu Vv) (AH []) 3000 60 99 [(true,IL),(true,IL)] [(false,.bool)] x=EK x:=by kernel_rfl
def Vw:List (FuncId×Sg):=(99,⟨[(true,IL),(true,IL)],[(false,.bool)],EK⟩)::Vv
theorem Ym:TabOK Tryz.prog (AC pu Vw):=AF Yl po
def og:List (Nat×Nat×Nat×An):=[(26,4,26,.loop { keep:=[0,1,3,7,15,23,11,19,27,9,17,25,13,21,2,8,16,24,12,20,6,10,18,26,14,22],kb:=[0,1],pl:=[.slot 5 false (.int .i64),.slot 4 false .bool],ex:=[(.ret,[]),(.exit 0,[])],pay:=.unit })]
theorem pq (x:AG [(true,C9),(true,C9)]):AZ Tryz.prog (AC pu Vw) (AH og) 3000 60 26 [(true,C9),(true,C9)] [(false,.bool)] x=DN x:=by kernel_rfl
def Vx:List (FuncId×Sg):=(26,⟨[(true,C9),(true,C9)],[(false,.bool)],DN⟩)::Vw
theorem Yn:TabOK Tryz.prog (AC pu Vx):=AF Ym pq
theorem oh (x:AG [(true,C9),(false,(.int .i64)),(false,(.int .i64))]):AZ Tryz.prog (AC pu Vx) (AH []) 3000 60 102 [(true,C9),(false,(.int .i64)),(false,(.int .i64))] [(true,C9),(false,(.int .i64)),(false,(.int .i64))] x=E8 x:=by kernel_rfl
def Vy:List (FuncId×Sg):=(102,⟨[(true,C9),(false,(.int .i64)),(false,(.int .i64))],[(true,C9),(false,(.int .i64)),(false,(.int .i64))],E8⟩)::Vx
theorem Yo:TabOK Tryz.prog (AC pu Vy):=AF Yn oh
theorem pt (x:AG [(true,C9),(false,(.int .i64))]):AZ Tryz.prog (AC pu Vy) (AH []) 3000 60 28 [(true,C9),(false,(.int .i64))] [(true,C9),(false,.bool),(false,(.int .i64))] x=GU x:=by kernel_rfl
def fH:List (FuncId×Sg):=(28,⟨[(true,C9),(false,(.int .i64))],[(true,C9),(false,.bool),(false,(.int .i64))],GU⟩)::Vy
theorem Yp:TabOK Tryz.prog (AC pu fH):=AF Yo pt
theorem e4 (x:AG [(true,C9),(false,(.int .i64))]):AZ Tryz.prog (AC pu fH) (AH []) 3000 60 4 [(true,C9),(false,(.int .i64))] [(false,.bool)] x=DO x:=by kernel_rfl
theorem IJ {x:AG [(true,C9),(false,(.int .i64))]} (h:DO x=some true) {ps:List Pi.PV} (ha:Hr [(true,C9),(false,(.int .i64))] x ps) {M:Pi.B9} {w:World} (hM : ∀ a v,M a=some v->a.spot=none/\w.cell? a=some v) {vs:List Value} (hr:Pi.RepL M Pi.mu0 ps vs) :
  Calls Tryz.prog 4 vs.toArray w λe w'=>e = .returned (.bool true)/\RowKit.Grown w w':=XV Yp ((e4 x).trans h) ha hM hr
end Go.Proofs.YthpkjfabdccpdaaGreat.Pt
