/- The evaluator comes to each of the plain functions. No condition. -/
import Derived.Test.YthpkjfabdccpdaaGreatPt0
set_option linter.all false
namespace Go.Proofs.YthpkjfabdccpdaaGreat.Pt
open Go Go.Proofs.YthpkjfabdccpdaaGreat.Sv Go.Proofs.YthpkjfabdccpdaaGreat.Pl
set_option maxRecDepth 1000000
set_option linter.unusedVariables false
theorem lL (x:AG [(true,T4),(false,(.int .i64))]):Ac Tryz.prog (AC pu aT) (AI []) 3000 60 115 [(true,T4),(false,(.int .i64))] [(false,.bool)] x=Bp x:=by kernel_rfl
def aV:List (FuncId×Sg):=(115,⟨[(true,T4),(false,(.int .i64))],[(false,.bool)],Bp⟩)::aT
theorem aW:TabOK Tryz.prog (AC pu aV):=AF aU lL
def ja:List (Nat×Nat×Nat×An):=[(231,6,9,.loop { keep:=[0,7,11,9,8,12,10],kb:=[],pl:=[.slot 3 false (.int .i64),.slot 2 false (.int .i64),.slot 4 false (.int .i64)],ex:=[(.ret,[]),(.exit 0,[])],pay:=.unit })]
theorem lM (x:AG [(false,(.sl false (.sl true T2)))]):Ac Tryz.prog (AC pu aV) (AI ja) 3000 60 231 [(false,(.sl false (.sl true T2)))] [(false,(.int .i64)),(false,(.int .i64))] x=Dd x:=by kernel_rfl
def aX:List (FuncId×Sg):=(231,⟨[(false,(.sl false (.sl true T2)))],[(false,(.int .i64)),(false,(.int .i64))],Dd⟩)::aV
theorem aY:TabOK Tryz.prog (AC pu aX):=AF aW lM
def jc:List (Nat×Nat×Nat×An):=[(269,6,8,.loop { keep:=[0,7,5,9,4,8,6],kb:=[],pl:=[.slot 3 false (.int .i64),.slot 2 false (.int .i64)],ex:=[(.ret,[]),(.exit 0,[])],pay:=.unit })]
theorem lN (x:AG [(false,(.sl true T5))]):Ac Tryz.prog (AC pu aX) (AI jc) 3000 60 269 [(false,(.sl true T5))] [(false,(.int .i64))] x=FI x:=by kernel_rfl
def aZ:List (FuncId×Sg):=(269,⟨[(false,(.sl true T5))],[(false,(.int .i64))],FI⟩)::aX
theorem aa:TabOK Tryz.prog (AC pu aZ):=AF aY lN
theorem lO (x:AG [(false,(.sl true T5)),(false,(.int .i64)),(false,(.int .i64))]):Ac Tryz.prog (AC pu aZ) (AI []) 3000 60 287 [(false,(.sl true T5)),(false,(.int .i64)),(false,(.int .i64))] [(false,.bool)] x=E2 x:=by kernel_rfl
def ab:List (FuncId×Sg):=(287,⟨[(false,(.sl true T5)),(false,(.int .i64)),(false,(.int .i64))],[(false,.bool)],E2⟩)::aZ
theorem ac:TabOK Tryz.prog (AC pu ab):=AF aa lO
theorem lQ (r:AG [(false,(.sl true T5)),(false,(.int .i64))]->Option (AG [(false,(.int .i64)),(false,(.int .i64))])) (x:AG [(false,(.sl true T5)),(false,(.int .i64))]):Ac Tryz.prog (AC pu ((281,⟨[(false,(.sl true T5)),(false,(.int .i64))],[(false,(.int .i64)),(false,(.int .i64))],r⟩)::ab)) (AI []) 3000 60 281 [(false,(.sl true T5)),(false,(.int .i64))] [(false,(.int .i64)),(false,(.int .i64))] x=As r x:=by kernel_rfl
def ad:List (FuncId×Sg):=(281,⟨[(false,(.sl true T5)),(false,(.int .i64))],[(false,(.int .i64)),(false,(.int .i64))],Jt (α:=AG [(false,(.sl true T5)),(false,(.int .i64))]) (β:=AG [(false,(.int .i64)),(false,(.int .i64))]) As 100⟩)::ab
theorem ae:TabOK Tryz.prog (AC pu ad):=f8 ac lQ (by rfl) (by rfl) 100
def jd:List (Nat×Nat×Nat×An):=[(270,3,11,.loop { keep:=[0,3,5,9,2,8,6],kb:=[0],pl:=[.slot 4 false (.int .i64),.box 8 [.ow true T5 false,.ow false (.int .i64) true,.lf (.int .i64)]],ex:=[(.exit 0,[])],pay:=.unit })]
theorem lR (x:AG [(false,(.sl true T5))]):Ac Tryz.prog (AC pu ad) (AI jd) 3000 60 270 [(false,(.sl true T5))] [(true,T7)] x=GC x:=by kernel_rfl
def af:List (FuncId×Sg):=(270,⟨[(false,(.sl true T5))],[(true,T7)],GC⟩)::ad
theorem ah:TabOK Tryz.prog (AC pu af):=AF ae lR
theorem lS (x:AG [(false,(.sl true T5))]):Ac Tryz.prog (AC pu af) (AI []) 3000 60 250 [(false,(.sl true T5))] [(true,T7),(false,(.int .i64))] x=EN x:=by kernel_rfl
def ai:List (FuncId×Sg):=(250,⟨[(false,(.sl true T5))],[(true,T7),(false,(.int .i64))],EN⟩)::af
theorem aj:TabOK Tryz.prog (AC pu ai):=AF ah lS
def je:List (Nat×Nat×Nat×An):=[(230,4,12,.loop { keep:=[0,1,15,11,5,9,13,4,12,10,14],kb:=[0,3,8,6],pl:=[.slot 7 false (.int .i64),.srow 6 true T5 false],ex:=[(.exit 0,[])],pay:=.unit })]
theorem lT (x:AG [(false,(.sl false (.sl true T2))),(false,(.sl false (.int .i64)))]):Ac Tryz.prog (AC pu ai) (AI je) 3000 60 230 [(false,(.sl false (.sl true T2))),(false,(.sl false (.int .i64)))] [(true,T9)] x=C2 x:=by kernel_rfl
def ak:List (FuncId×Sg):=(230,⟨[(false,(.sl false (.sl true T2))),(false,(.sl false (.int .i64)))],[(true,T9)],C2⟩)::ai
theorem al:TabOK Tryz.prog (AC pu ak):=AF aj lT
theorem lU (x:AG [(false,(.sl false (.sl true T2)))]):Ac Tryz.prog (AC pu ak) (AI []) 3000 60 226 [(false,(.sl false (.sl true T2)))] [(true,T9),(false,(.int .i64)),(false,(.int .i64))] x=Gm x:=by kernel_rfl
def am:List (FuncId×Sg):=(226,⟨[(false,(.sl false (.sl true T2)))],[(true,T9),(false,(.int .i64)),(false,(.int .i64))],Gm⟩)::ak
theorem an:TabOK Tryz.prog (AC pu am):=AF al lU
theorem lV (x:AG [(false,.bool)]):Ac Tryz.prog (AC pu am) (AI []) 3000 60 227 [(false,.bool)] [(true,PN)] x=C3 x:=by kernel_rfl
def ao:List (FuncId×Sg):=(227,⟨[(false,.bool)],[(true,PN)],C3⟩)::am
theorem ap:TabOK Tryz.prog (AC pu ao):=AF an lV
theorem lW (x:AG [(false,(.sl false (.sl true T2))),(false,.bool)]):Ac Tryz.prog (AC pu ao) (AI []) 3000 60 190 [(false,(.sl false (.sl true T2))),(false,.bool)] [(true,IE),(false,(.int .i64)),(false,(.int .i64))] x=FJ x:=by kernel_rfl
def aq:List (FuncId×Sg):=(190,⟨[(false,(.sl false (.sl true T2))),(false,.bool)],[(true,IE),(false,(.int .i64)),(false,(.int .i64))],FJ⟩)::ao
theorem au:TabOK Tryz.prog (AC pu aq):=AF ap lW
theorem lX (x:AG [(true,T4),(false,(.int .i64)),(false,.bool)]):Ac Tryz.prog (AC pu aq) (AI []) 3000 60 116 [(true,T4),(false,(.int .i64)),(false,.bool)] [(true,Lb)] x=A0 x:=by kernel_rfl
def aw:List (FuncId×Sg):=(116,⟨[(true,T4),(false,(.int .i64)),(false,.bool)],[(true,Lb)],A0⟩)::aq
theorem ax:TabOK Tryz.prog (AC pu aw):=AF au lX
def jf:List (Nat×Nat×Nat×An):=[(233,4,7,.loop { keep:=[0,1,7,9,8,6,10],kb:=[],pl:=[.slot 5 false (.int .i64),.slot 4 false .bool],ex:=[(.ret,[]),(.exit 0,[])],pay:=.unit })]
theorem lY (x:AG [(false,(.sl false (.int .i64))),(false,(.sl false (.int .i64)))]):Ac Tryz.prog (AC pu aw) (AI jf) 3000 60 233 [(false,(.sl false (.int .i64))),(false,(.sl false (.int .i64)))] [(false,.bool)] x=GD x:=by kernel_rfl
def ay:List (FuncId×Sg):=(233,⟨[(false,(.sl false (.int .i64))),(false,(.sl false (.int .i64)))],[(false,.bool)],GD⟩)::aw
theorem az:TabOK Tryz.prog (AC pu ay):=AF ax lY
def jg:List (Nat×Nat×Nat×An):=[(234,4,26,.loop { keep:=[0,1,3,7,15,23,11,19,27,9,17,25,13,21,2,8,16,24,12,20,6,10,18,26,14,22],kb:=[0,1],pl:=[.slot 5 false (.int .i64),.slot 4 false .bool],ex:=[(.ret,[]),(.exit 0,[])],pay:=.unit })]
theorem lZ (x:AG [(true,T7),(true,T7)]):Ac Tryz.prog (AC pu ay) (AI jg) 3000 60 234 [(true,T7),(true,T7)] [(false,.bool)] x=E3 x:=by kernel_rfl
def bA:List (FuncId×Sg):=(234,⟨[(true,T7),(true,T7)],[(false,.bool)],E3⟩)::ay
theorem bB:TabOK Tryz.prog (AC pu bA):=AF az lZ
end Go.Proofs.YthpkjfabdccpdaaGreat.Pt
