/- The evaluator comes to each of the plain functions. No condition. -/
import Derived.Test.YthpkjfabdccpdaaGreatPt2
set_option linter.all false
namespace Go.Proofs.YthpkjfabdccpdaaGreat.Pt
open Go Go.Proofs.YthpkjfabdccpdaaGreat.Sv Go.Proofs.YthpkjfabdccpdaaGreat.Pl
set_option maxRecDepth 1000000
set_option linter.unusedVariables false
def iR:List (Nat×Nat×Nat×An):=[(122,8,26,.loop { keep:=[0,1,15,23,11,19,27,5,17,25,13,21,29,16,24,12,20,28,18,26,14,22],kb:=[0],pl:=[.slot 3 false (.int .i64),.slot 2 false (.int .i64),.slot 4 false (.int .i64),.slot 30 false (.int .i64),.map 18 (.int .i64) false .bool],ex:=[(.exit 1,[])],pay:=.unit }),(122,14,44,.loop { keep:=[0,1,7,15,31,23,39,11,19,35,27,5,17,33,25,41,13,21,37,29,2,16,32,24,40,12,20,36,28,6,18,34,26,42,14,22,38,30],kb:=[0,30],pl:=[.slot 3 false (.int .i64),.slot 43 false (.int .i64),.slot 4 false (.int .i64),.map 18 (.int .i64) false .bool],ex:=[(.exit 1,[]),(.exit 3,[])],pay:=.unit })]
theorem kO (x:AE [(true,T4)]):Ab Tryz.prog (AB pu aQ) (AI iR) 3000 60 122 [(true,T4)] [(false,(.int .i64)),(false,(.int .i64)),(false,(.int .i64))] x=DV x:=by kernel_rfl
def aS:List (FuncId×Sg):=(122,⟨[(true,T4)],[(false,(.int .i64)),(false,(.int .i64)),(false,(.int .i64))],DV⟩)::aQ
theorem aT:TabOK Tryz.prog (AB pu aS):=AD aR kO
def iS:List (Nat×Nat×Nat×An):=[(180,2,6,.loop { keep:=[0,1,7,9,8],kb:=[0],pl:=[.slot 2 false (.int .i64),.slot 10 false (.int .i64)],ex:=[(.exit 0,[])],pay:=.unit }),(180,5,15,.loop { keep:=[0,1,7,15,11,9,13,4,8,16,12,10,14],kb:=[0,9],pl:=[.slot 17 false (.int .i64),.slot 2 false (.int .i64)],ex:=[(.exit 2,[])],pay:=.unit })]
theorem kP (x:AE [(true,T4)]):Ab Tryz.prog (AB pu aS) (AI iS) 3000 60 180 [(true,T4)] [(false,(.int .i64))] x=Dx x:=by kernel_rfl
def aU:List (FuncId×Sg):=(180,⟨[(true,T4)],[(false,(.int .i64))],Dx⟩)::aS
theorem aV:TabOK Tryz.prog (AB pu aU):=AD aT kP
theorem kQ (x:AE [(true,T4),(false,(.int .i64))]):Ab Tryz.prog (AB pu aU) (AI []) 3000 60 181 [(true,T4),(false,(.int .i64))] [(false,.bool)] x=E0 x:=by kernel_rfl
def aW:List (FuncId×Sg):=(181,⟨[(true,T4),(false,(.int .i64))],[(false,.bool)],E0⟩)::aU
theorem aX:TabOK Tryz.prog (AB pu aW):=AD aV kQ
def iT:List (Nat×Nat×Nat×An):=[(254,6,13,.loop { keep:=[0,15,11,9,17,13,8,16,12,10,14],kb:=[],pl:=[.slot 3 false (.int .i64),.slot 2 false (.int .i64),.slot 18 false (.int .i64)],ex:=[(.ret,[]),(.exit 1,[])],pay:=.unit })]
theorem kS (x:AE [(false,(.sl false (.sl true T2)))]):Ab Tryz.prog (AB pu aW) (AI iT) 3000 60 254 [(false,(.sl false (.sl true T2)))] [(false,(.int .i64)),(false,(.int .i64))] x=DA x:=by kernel_rfl
def aY:List (FuncId×Sg):=(254,⟨[(false,(.sl false (.sl true T2)))],[(false,(.int .i64)),(false,(.int .i64))],DA⟩)::aW
theorem aZ:TabOK Tryz.prog (AB pu aY):=AD aX kS
theorem kT (x:AE [(false,.bool)]):Ab Tryz.prog (AB pu aY) (AI []) 3000 60 243 [(false,.bool)] [(true,Og)] x=CJ x:=by kernel_rfl
def aa:List (FuncId×Sg):=(243,⟨[(false,.bool)],[(true,Og)],CJ⟩)::aY
theorem ab:TabOK Tryz.prog (AB pu aa):=AD aZ kT
theorem kU:MY Tryz.prog (λf => !pu f) 1000 100 268=true:=by kernel_rfl
theorem kV (a:Ty.den (.sl true T2)) (l:List (Ty.den (.sl true T2))):Ab Tryz.prog (AB pu aa) (AI []) 3000 60 268 [(false,(.sl false (.sl true T2)))] [(false,(.sl false (.sl true T2)))] (a::l)=Ag (a::l):=by kernel_rfl
def ac:List (FuncId×Sg):=(268,⟨[(false,(.sl false (.sl true T2)))],[(false,(.sl false (.sl true T2)))],Ag⟩)::aa
theorem ad:TabOK Tryz.prog (AB pu ac):=OF (gg:=false) (c:=(.sl true T2)) ab kU rfl kV
theorem kW:OG Tryz.prog (λf => !pu f) 1000 100 268=true:=by kernel_rfl
theorem kX (a:Ty.den (.sl true T2)) (l:List (Ty.den (.sl true T2))):PO Tryz.prog (AB pu ac) (AI []) 3000 60 268 [(false,(.sl false (.sl true T2)))] false (.sl true T2) (a::l)=Ag (a::l):=by kernel_rfl
def ae:List (FuncId×Sg):=(268+Gv,⟨[(false,(.sl false (.sl true T2)))],[(false,(.sl false (.sl true T2)))],Ag⟩)::ac
theorem af:TabOK Tryz.prog (AB pu ae):=OH (gg:=false) (c:=(.sl true T2)) ad kW rfl (λa l y h=>OI h) kX
theorem kY (x:AE [(false,(.sl true T2)),(false,(.int .i64))]):Ab Tryz.prog (AB pu ae) (AI []) 3000 60 272 [(false,(.sl true T2)),(false,(.int .i64))] [(true,T5)] x=BB x:=by kernel_rfl
def ah:List (FuncId×Sg):=(272,⟨[(false,(.sl true T2)),(false,(.int .i64))],[(true,T5)],BB⟩)::ae
theorem ai:TabOK Tryz.prog (AB pu ah):=AD af kY
theorem kZ (x:AE [(true,T5)]):Ab Tryz.prog (AB pu ah) (AI []) 3000 60 289 [(true,T5)] [(false,.bool)] x=Cw x:=by kernel_rfl
def aj:List (FuncId×Sg):=(289,⟨[(true,T5)],[(false,.bool)],Cw⟩)::ah
theorem ak:TabOK Tryz.prog (AB pu aj):=AD ai kZ
def iU:List (Nat×Nat×Nat×An):=[(291,2,22,.loop { keep:=[0,1,7,6],kb:=[],pl:=[.slot 4 false (.int .i64),.slot 8 false (.int .i64)],ex:=[(.ret,[]),(.exit 0,[])],pay:=.unit })]
theorem ka (x:AE [(false,(.sl true T5))]):Ab Tryz.prog (AB pu aj) (AI iU) 3000 60 282 [(false,(.sl true T5))] [(false,(.int .i64))] x=DB x:=by kernel_rfl
def al:List (FuncId×Sg):=(282,⟨[(false,(.sl true T5))],[(false,(.int .i64))],DB⟩)::aj
theorem am:TabOK Tryz.prog (AB pu al):=AD ak ka
theorem kc:MY Tryz.prog (λf => !pu f) 1000 100 285=true:=by kernel_rfl
theorem ke (a:Ty.den T5) (l:List (Ty.den T5)):Ab Tryz.prog (AB pu al) (AI []) 3000 60 285 [(false,(.sl true T5))] [(false,(.sl true T5))] (a::l)=Ah (a::l):=by kernel_rfl
def an:List (FuncId×Sg):=(285,⟨[(false,(.sl true T5))],[(false,(.sl true T5))],Ah⟩)::al
theorem ao:TabOK Tryz.prog (AB pu an):=OF (gg:=true) (c:=T5) am kc rfl ke
theorem kg:OG Tryz.prog (λf => !pu f) 1000 100 285=true:=by kernel_rfl
theorem kh (a:Ty.den T5) (l:List (Ty.den T5)):PO Tryz.prog (AB pu an) (AI []) 3000 60 285 [(false,(.sl true T5))] true T5 (a::l)=Ah (a::l):=by kernel_rfl
def ap:List (FuncId×Sg):=(285+Gv,⟨[(false,(.sl true T5))],[(false,(.sl true T5))],Ah⟩)::an
theorem aq:TabOK Tryz.prog (AB pu ap):=OH (gg:=true) (c:=T5) ao kg rfl (λa l y h=>OI h) kh
def iV:List (Nat×Nat×Nat×An):=[(283,6,26,.loop { keep:=[0,3,15,23,11,19,17,13,21,2,4,16,24,12,20,6,10,18,14,22],kb:=[0,7],pl:=[.slot 7 false (.int .i64),.srow 5 false (.int .i64) true,.box 20 [.ow true T5 false,.ow false (.int .i64) true,.lf (.int .i64)]],ex:=[(.exit 0,[])],pay:=.unit })]
theorem ki (x:AE [(false,(.sl true T5))]):Ab Tryz.prog (AB pu ap) (AI iV) 3000 60 283 [(false,(.sl true T5))] [(true,T7)] x=Eh x:=by kernel_rfl
def au:List (FuncId×Sg):=(283,⟨[(false,(.sl true T5))],[(true,T7)],Eh⟩)::ap
theorem aw:TabOK Tryz.prog (AB pu au):=AD aq ki
theorem kj (x:AE [(false,(.sl true T5))]):Ab Tryz.prog (AB pu au) (AI []) 3000 60 273 [(false,(.sl true T5))] [(true,T7),(false,(.int .i64))] x=CF x:=by kernel_rfl
def ax:List (FuncId×Sg):=(273,⟨[(false,(.sl true T5))],[(true,T7),(false,(.int .i64))],CF⟩)::au
theorem ay:TabOK Tryz.prog (AB pu ax):=AD aw kj
end Go.Proofs.YthpkjfabdccpdaaGreat.Pt
