/- The evaluator comes to each of the plain functions. No condition. -/
import Derived.Test.YthpkjfabdccpdaaGreatPt1
set_option linter.all false
namespace Go.Proofs.YthpkjfabdccpdaaGreat.Pt
open Go Go.Proofs.YthpkjfabdccpdaaGreat.Sv Go.Proofs.YthpkjfabdccpdaaGreat.Pl
set_option maxRecDepth 1000000
set_option linter.unusedVariables false
def i0:List (Nat×Nat×Nat×An):=[(230,4,12,.loop { keep:=[0,1,15,11,5,9,13,4,12,10,14],kb:=[0,3,8,6],pl:=[.slot 7 false (.int .i64),.srow 6 true T5 false],ex:=[(.exit 0,[])],pay:=.unit })]
theorem ki (x:AG [(false,(.sl false (.sl true T2))),(false,(.sl false (.int .i64)))]):Aa Tryz.prog (AB pu aK) (AH i0) 3000 60 230 [(false,(.sl false (.sl true T2))),(false,(.sl false (.int .i64)))] [(true,T9)] x=Ck x:=by kernel_rfl
def aM:List (FuncId×Sg):=(230,⟨[(false,(.sl false (.sl true T2))),(false,(.sl false (.int .i64)))],[(true,T9)],Ck⟩)::aK
theorem aN:TabOK Tryz.prog (AB pu aM):=AE aL ki
theorem kj (x:AG [(false,(.sl false (.sl true T2)))]):Aa Tryz.prog (AB pu aM) (AH []) 3000 60 226 [(false,(.sl false (.sl true T2)))] [(true,T9),(false,(.int .i64)),(false,(.int .i64))] x=Ge x:=by kernel_rfl
def aO:List (FuncId×Sg):=(226,⟨[(false,(.sl false (.sl true T2)))],[(true,T9),(false,(.int .i64)),(false,(.int .i64))],Ge⟩)::aM
theorem aQ:TabOK Tryz.prog (AB pu aO):=AE aN kj
theorem kl (x:AG [(false,.bool)]):Aa Tryz.prog (AB pu aO) (AH []) 3000 60 227 [(false,.bool)] [(true,Om)] x=Cl x:=by kernel_rfl
def aR:List (FuncId×Sg):=(227,⟨[(false,.bool)],[(true,Om)],Cl⟩)::aO
theorem aS:TabOK Tryz.prog (AB pu aR):=AE aQ kl
theorem km (x:AG [(false,(.sl false (.sl true T2))),(false,.bool)]):Aa Tryz.prog (AB pu aR) (AH []) 3000 60 190 [(false,(.sl false (.sl true T2))),(false,.bool)] [(true,H4),(false,(.int .i64)),(false,(.int .i64))] x=FG x:=by kernel_rfl
def aT:List (FuncId×Sg):=(190,⟨[(false,(.sl false (.sl true T2))),(false,.bool)],[(true,H4),(false,(.int .i64)),(false,(.int .i64))],FG⟩)::aR
theorem aU:TabOK Tryz.prog (AB pu aT):=AE aS km
theorem kn (x:AG [(true,T4),(false,(.int .i64)),(false,.bool)]):Aa Tryz.prog (AB pu aT) (AH []) 3000 60 116 [(true,T4),(false,(.int .i64)),(false,.bool)] [(true,JA)] x=Ak x:=by kernel_rfl
def aV:List (FuncId×Sg):=(116,⟨[(true,T4),(false,(.int .i64)),(false,.bool)],[(true,JA)],Ak⟩)::aT
theorem aW:TabOK Tryz.prog (AB pu aV):=AE aU kn
def ko:List (Nat×Nat×Nat×An):=[(86,7,25,.loop { keep:=[0,1,3,7,15,23,11,5,17,25,13,21,2,4,8,16,24,12,20,6,10,26,14,22],kb:=[0,1],pl:=[.slot 9 false (.int .i64),.box 19 [.lf (.int .i64),.lf (.sl true (.sl true T3)),.ow true JA false,.lf (.int .i64)]],ex:=[(.exit 0,[])],pay:=.unit })]
theorem ng (x:AG [(true,T4)]):Aa Tryz.prog (AB pu aV) (AH ko) 3000 60 86 [(true,T4)] [(true,E5),(false,(.int .i64))] x=LF x:=by kernel_rfl
def aX:List (FuncId×Sg):=(86,⟨[(true,T4)],[(true,E5),(false,(.int .i64))],LF⟩)::aV
theorem aY:TabOK Tryz.prog (AB pu aX):=AE aW ng
theorem kq (x:AG [(false,.str)]):Aa Tryz.prog (AB pu aX) (AH []) 3000 60 235 [(false,.str)] [(false,(.int .i64))] x=Et x:=by kernel_rfl
def aZ:List (FuncId×Sg):=(235,⟨[(false,.str)],[(false,(.int .i64))],Et⟩)::aX
theorem aa:TabOK Tryz.prog (AB pu aZ):=AE aY kq
theorem kr (x:AG [(true,T2)]):Aa Tryz.prog (AB pu aZ) (AH []) 3000 60 204 [(true,T2)] [(false,(.int .i64))] x=CB x:=by kernel_rfl
def ab:List (FuncId×Sg):=(204,⟨[(true,T2)],[(false,(.int .i64))],CB⟩)::aZ
theorem ac:TabOK Tryz.prog (AB pu ab):=AE aa kr
def i3:List (Nat×Nat×Nat×An):=[(184,4,8,.loop { keep:=[0,7,11,9,8,10],kb:=[],pl:=[.slot 3 false (.int .i64),.slot 2 false (.int .i64),.slot 12 false (.int .i64)],ex:=[(.ret,[]),(.exit 0,[])],pay:=.unit })]
theorem ks (x:AG [(false,(.sl true T2))]):Aa Tryz.prog (AB pu ab) (AH i3) 3000 60 184 [(false,(.sl true T2))] [(false,(.int .i64)),(false,(.int .i64))] x=BH x:=by kernel_rfl
def ad:List (FuncId×Sg):=(184,⟨[(false,(.sl true T2))],[(false,(.int .i64)),(false,(.int .i64))],BH⟩)::ab
theorem ae:TabOK Tryz.prog (AB pu ad):=AE ac ks
theorem ku (x:AG [(true,T3)]):Aa Tryz.prog (AB pu ad) (AH []) 3000 60 109 [(true,T3)] [(false,(.int .i64)),(false,(.int .i64))] x=Eu x:=by kernel_rfl
def af:List (FuncId×Sg):=(109,⟨[(true,T3)],[(false,(.int .i64)),(false,(.int .i64))],Eu⟩)::ad
theorem ah:TabOK Tryz.prog (AB pu af):=AE ae ku
theorem kw (x:AG [(true,T3),(false,(.int .i64))]):Aa Tryz.prog (AB pu af) (AH []) 3000 60 172 [(true,T3),(false,(.int .i64))] [(false,(.int .i64))] x=Ci x:=by kernel_rfl
def ai:List (FuncId×Sg):=(172,⟨[(true,T3),(false,(.int .i64))],[(false,(.int .i64))],Ci⟩)::af
theorem aj:TabOK Tryz.prog (AB pu ai):=AE ah kw
def i4:List (Nat×Nat×Nat×An):=[(122,8,26,.loop { keep:=[0,1,15,23,11,19,27,5,17,25,13,21,29,16,24,12,20,28,18,26,14,22],kb:=[0],pl:=[.slot 3 false (.int .i64),.slot 2 false (.int .i64),.slot 4 false (.int .i64),.slot 30 false (.int .i64),.map 18 (.int .i64) false .bool],ex:=[(.exit 1,[])],pay:=.unit }),(122,14,44,.loop { keep:=[0,1,7,15,31,23,39,11,19,35,27,5,17,33,25,41,13,21,37,29,2,16,32,24,40,12,20,36,28,6,18,34,26,42,14,22,38,30],kb:=[0,30],pl:=[.slot 3 false (.int .i64),.slot 43 false (.int .i64),.slot 4 false (.int .i64),.map 18 (.int .i64) false .bool],ex:=[(.exit 1,[]),(.exit 3,[])],pay:=.unit })]
theorem ky (x:AG [(true,T4)]):Aa Tryz.prog (AB pu ai) (AH i4) 3000 60 122 [(true,T4)] [(false,(.int .i64)),(false,(.int .i64)),(false,(.int .i64))] x=Cq x:=by kernel_rfl
def ak:List (FuncId×Sg):=(122,⟨[(true,T4)],[(false,(.int .i64)),(false,(.int .i64)),(false,(.int .i64))],Cq⟩)::ai
theorem al:TabOK Tryz.prog (AB pu ak):=AE aj ky
def i5:List (Nat×Nat×Nat×An):=[(180,2,6,.loop { keep:=[0,1,7,9,8],kb:=[0],pl:=[.slot 2 false (.int .i64),.slot 10 false (.int .i64)],ex:=[(.exit 0,[])],pay:=.unit }),(180,5,15,.loop { keep:=[0,1,7,15,11,9,13,4,8,16,12,10,14],kb:=[0,9],pl:=[.slot 17 false (.int .i64),.slot 2 false (.int .i64)],ex:=[(.exit 2,[])],pay:=.unit })]
theorem kz (x:AG [(true,T4)]):Aa Tryz.prog (AB pu ak) (AH i5) 3000 60 180 [(true,T4)] [(false,(.int .i64))] x=D5 x:=by kernel_rfl
def am:List (FuncId×Sg):=(180,⟨[(true,T4)],[(false,(.int .i64))],D5⟩)::ak
theorem an:TabOK Tryz.prog (AB pu am):=AE al kz
theorem lA (x:AG [(true,T4),(false,(.int .i64))]):Aa Tryz.prog (AB pu am) (AH []) 3000 60 181 [(true,T4),(false,(.int .i64))] [(false,.bool)] x=Cj x:=by kernel_rfl
def ao:List (FuncId×Sg):=(181,⟨[(true,T4),(false,(.int .i64))],[(false,.bool)],Cj⟩)::am
theorem ap:TabOK Tryz.prog (AB pu ao):=AE an lA
end Go.Proofs.YthpkjfabdccpdaaGreat.Pt
