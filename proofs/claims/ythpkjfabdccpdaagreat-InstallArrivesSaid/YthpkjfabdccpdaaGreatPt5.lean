/- The evaluator comes to each of the plain functions. No condition. -/
import Derived.Test.YthpkjfabdccpdaaGreatPt4
set_option linter.all false
namespace Go.Proofs.YthpkjfabdccpdaaGreat.Pt
open Go Go.Proofs.YthpkjfabdccpdaaGreat.Sv Go.Proofs.YthpkjfabdccpdaaGreat.Pl
set_option maxRecDepth 1000000
set_option linter.unusedVariables false
theorem ly (x:AG [(false,(.int .i64)),(false,(.int .i64)),(true,kC)]):Vb Tryz.prog (AB pu cJ) (AH []) 3000 60 290 [(false,(.int .i64)),(false,(.int .i64)),(true,kC)] [(false,.bool)] x=BU x:=by kernel_rfl
def cL:List (FuncId×Sg):=(3146018,⟨[(false,(.int .i64)),(false,(.int .i64)),(true,kC)],[(false,.bool)],BU⟩)::cJ
theorem cM:TabOK Tryz.prog (AB pu cL):=fC (f:=290) cK ly
def jG:List (Nat×Nat×Nat×An):=[(279,13,63,.loop { keep:=[0,1,3,7,31,63,47,55,11,19,35,51,27,43,59,9,17,33,49,25,41,57,13,21,37,53,29,45,61,2,4,8,32,48,24,40,56,12,20,36,52,28,44,60,6,18,34,50,26,42,58,14,38,54,30,46,62],kb:=[0,1,33,52],pl:=[.slot 5 false (.int .i64),.slot 10 false (.int .i64),.box 2 [.kp 33,.ow false (.int .i64) false,.lf (.int .i64)]],ex:=[(.exit 0,[])],pay:=.unit })]
theorem lz (x:AG [(true,T7),(true,T5)]):Aa Tryz.prog (AB pu cL) (AH jG) 3000 60 279 [(true,T7),(true,T5)] [(true,T7),(false,(.int .i64)),(false,(.int .i64))] x=CC x:=by kernel_rfl
def cN:List (FuncId×Sg):=(279,⟨[(true,T7),(true,T5)],[(true,T7),(false,(.int .i64)),(false,(.int .i64))],CC⟩)::cL
theorem cO:TabOK Tryz.prog (AB pu cN):=AE cM lz
def jH:List (Nat×Nat×Nat×An):=[(277,0,45,.loop { keep:=[0,1],kb:=[39,35,43,9,13,44],pl:=[.box 0 [.ow true T2 false],.box 1 [.ow false (.int .i64) false]],ex:=[(.ret,[(44,0,none)])],pay:=.unit }),(256,3,47,.loop { keep:=[0,1,11,13,4,12,10,14],kb:=[0,1,39,27,13,30],pl:=[.slot 15 false (.int .i64),.srow 5 true T5 true],ex:=[(.exit 0,[])],pay:=.unit }),(277,0,72,.loop { keep:=[0,1],kb:=[47,39,71,9,13,53,66,70,30],pl:=[.box 0 [.ow true T2 false],.box 1 [.ow false (.int .i64) false],.box 62 [.kp 30,.ow false (.int .i64) true,.lf (.sl true T5),.lf (.sl false (.int .i64)),.lf (.int .i64)]],ex:=[(.ret,[(71,0,none)])],pay:=.unit })]
theorem l7 (x:AG [(false,(.sl false (.sl true T2)))]):Aa Tryz.prog (AB pu cN) (AH jH) 3000 60 241 [(false,(.sl false (.sl true T2)))] [(false,(.sl true T2)),(false,(.sl false (.int .i64))),(false,(.int .i64))] x=Gm x:=by kernel_rfl
def cQ:List (FuncId×Sg):=(241,⟨[(false,(.sl false (.sl true T2)))],[(false,(.sl true T2)),(false,(.sl false (.int .i64))),(false,(.int .i64))],Gm⟩)::cN
theorem cR:TabOK Tryz.prog (AB pu cQ):=AE cO l7
theorem l8 (x:AG [(true,Om)]):Aa Tryz.prog (AB pu cQ) (AH []) 3000 60 280 [(true,Om)] [(false,(.int .i64))] x=Dd x:=by kernel_rfl
def cS:List (FuncId×Sg):=(280,⟨[(true,Om)],[(false,(.int .i64))],Dd⟩)::cQ
theorem cU:TabOK Tryz.prog (AB pu cS):=AE cR l8
theorem l9 (x:AG [(true,T2)]):Aa Tryz.prog (AB pu cS) (AH []) 3000 60 307 [(true,T2)] [(true,T2)] x=A1 x:=by kernel_rfl
def cV:List (FuncId×Sg):=(307,⟨[(true,T2)],[(true,T2)],A1⟩)::cS
theorem cW:TabOK Tryz.prog (AB pu cV):=AE cU l9
def jI:List (Nat×Nat×Nat×An):=[(262,5,24,.loop { keep:=[0,1,15,19,17,2,8,16,20,18,14],kb:=[],pl:=[.slot 7 false (.int .i64),.slot 21 false (.int .i64),.slot 6 false (.int .i64),.box 19 [.lf .bool,.lf .str,.lf .bool],.box 0 [.ow true T2 false]],ex:=[(.ret,[]),(.exit 0,[])],pay:=.unit })]
theorem mA (x:AG [(false,(.sl true T2)),(false,.bool)]):Aa Tryz.prog (AB pu cV) (AH jI) 3000 60 242 [(false,(.sl true T2)),(false,.bool)] [(false,(.sl true T2)),(false,(.int .i64)),(false,(.int .i64))] x=D7 x:=by kernel_rfl
def cX:List (FuncId×Sg):=(242,⟨[(false,(.sl true T2)),(false,.bool)],[(false,(.sl true T2)),(false,(.int .i64)),(false,(.int .i64))],D7⟩)::cV
theorem cY:TabOK Tryz.prog (AB pu cX):=AE cW mA
def jJ:List (Nat×Nat×Nat×An):=[(244,4,9,.loop { keep:=[0,1,7,11,9,13,8,12,10],kb:=[],pl:=[.slot 4 false .bool,.slot 14 false (.int .i64)],ex:=[(.ret,[]),(.exit 0,[])],pay:=.unit })]
theorem mB (x:AG [(false,(.sl true T2)),(false,(.sl true T2))]):Aa Tryz.prog (AB pu cX) (AH jJ) 3000 60 244 [(false,(.sl true T2)),(false,(.sl true T2))] [(false,.bool)] x=De x:=by kernel_rfl
def cZ:List (FuncId×Sg):=(244,⟨[(false,(.sl true T2)),(false,(.sl true T2))],[(false,.bool)],De⟩)::cX
theorem ca:TabOK Tryz.prog (AB pu cZ):=AE cY mB
def jK:List (Nat×Nat×Nat×An):=[(214,6,18,.loop { keep:=[0,1,3,15,23,19,17,25,21,2,4,16,24,20,18,26,14],kb:=[0],pl:=[.slot 27 false (.int .i64),.slot 5 false (.int .i64)],ex:=[(.exit 0,[])],pay:=.unit })]
theorem mC (x:AG [(true,H4)]):Aa Tryz.prog (AB pu cZ) (AH jK) 3000 60 214 [(true,H4)] [(false,(.int .i64))] x=EZ x:=by kernel_rfl
def cb:List (FuncId×Sg):=(214,⟨[(true,H4)],[(false,(.int .i64))],EZ⟩)::cZ
theorem cc:TabOK Tryz.prog (AB pu cb):=AE ca mC
def jL:List (Nat×Nat×Nat×An):=[(215,6,17,.loop { keep:=[0,1,3,15,11,19,5,9,17,13,2,4,12,10,18,14],kb:=[0],pl:=[.slot 20 false (.int .i64),.slot 6 false (.int .i64)],ex:=[(.exit 0,[])],pay:=.unit })]
theorem mD (x:AG [(true,T9)]):Aa Tryz.prog (AB pu cb) (AH jL) 3000 60 215 [(true,T9)] [(false,(.int .i64)),(false,(.int .i64))] x=Ft x:=by kernel_rfl
def cd:List (FuncId×Sg):=(215,⟨[(true,T9)],[(false,(.int .i64)),(false,(.int .i64))],Ft⟩)::cb
theorem cf:TabOK Tryz.prog (AB pu cd):=AE cc mD
theorem mE (x:AG [(true,H4)]):Aa Tryz.prog (AB pu cd) (AH []) 3000 60 167 [(true,H4)] [(false,(.int .i64)),(false,(.int .i64))] x=BY x:=by kernel_rfl
def cg:List (FuncId×Sg):=(167,⟨[(true,H4)],[(false,(.int .i64)),(false,(.int .i64))],BY⟩)::cd
theorem cj:TabOK Tryz.prog (AB pu cg):=AE cf mE
theorem mF (x:AG [(true,T9)]):Aa Tryz.prog (AB pu cg) (AH []) 3000 60 245 [(true,T9)] [(true,T2),(false,(.int .i64)),(true,T9),(false,(.int .i64))] x=Bt x:=by kernel_rfl
def ck:List (FuncId×Sg):=(245,⟨[(true,T9)],[(true,T2),(false,(.int .i64)),(true,T9),(false,(.int .i64))],Bt⟩)::cg
theorem cm:TabOK Tryz.prog (AB pu ck):=AE cj mF
theorem mG (x:AG [(true,Om),(true,T2)]):Aa Tryz.prog (AB pu ck) (AH []) 3000 60 246 [(true,Om),(true,T2)] [(false,.bool),(true,Om),(false,(.int .i64))] x=B0 x:=by kernel_rfl
def cp:List (FuncId×Sg):=(246,⟨[(true,Om),(true,T2)],[(false,.bool),(true,Om),(false,(.int .i64))],B0⟩)::ck
theorem cq:TabOK Tryz.prog (AB pu cp):=AE cm mG
def jM:List (Nat×Nat×Nat×An):=[(216,2,81,.loop { keep:=[0,1,6],kb:=[0,1,39,67,68],pl:=[.slot 7 false (.int .i64),.slot 4 false (.int .i64),.box 28 [.lf (.sl false (.sl true T2)),.lf (.sl false (.int .i64)),.lf (.sl true T5),.lf (.sl false (.int .i64)),.lf (.int .i64),.lf .bool,.lf .str,.lf .bool,.ow true T2 false,.lf (.int .i64)]],ex:=[(.ret,[]),(.exit 0,[])],pay:=.unit }),(216,2,98,.loop { keep:=[0,1,6],kb:=[0,1,39,67,68,86],pl:=[.slot 7 false (.int .i64),.slot 4 false (.int .i64),.box 28 [.lf (.sl false (.sl true T2)),.lf (.sl false (.int .i64)),.lf (.sl true T5),.lf (.sl false (.int .i64)),.lf (.int .i64),.lf .bool,.lf .str,.lf .bool,.ow true T2 false,.lf (.int .i64)]],ex:=[(.ret,[]),(.exit 0,[])],pay:=.unit }),(216,2,133,.loop { keep:=[0,1,6],kb:=[0,1,39,67,68,86],pl:=[.slot 7 false (.int .i64),.slot 4 false (.int .i64),.box 28 [.lf (.sl false (.sl true T2)),.lf (.sl false (.int .i64)),.lf (.sl true T5),.lf (.sl false (.int .i64)),.lf (.int .i64),.lf .bool,.lf .str,.lf .bool,.ow true T2 false,.lf (.int .i64)]],ex:=[(.ret,[]),(.exit 0,[])],pay:=.unit }),(216,2,120,.loop { keep:=[0,1,6],kb:=[0,1,39,67,68,86],pl:=[.slot 7 false (.int .i64),.slot 4 false (.int .i64),.box 28 [.lf (.sl false (.sl true T2)),.lf (.sl false (.int .i64)),.lf (.sl true T5),.lf (.sl false (.int .i64)),.lf (.int .i64),.lf .bool,.lf .str,.lf .bool,.ow true T2 false,.lf (.int .i64)]],ex:=[(.ret,[]),(.exit 0,[])],pay:=.unit })]
theorem mH (x:AG [(true,H4),(false,(.int .i64))]):Aa Tryz.prog (AB pu cp) (AH jM) 3000 60 175 [(true,H4),(false,(.int .i64))] [(true,H4),(false,(.int .i64)),(false,(.int .i64))] x=B3 x:=by kernel_rfl
def cr:List (FuncId×Sg):=(175,⟨[(true,H4),(false,(.int .i64))],[(true,H4),(false,(.int .i64)),(false,(.int .i64))],B3⟩)::cp
theorem cu:TabOK Tryz.prog (AB pu cr):=AE cq mH
def jN:List (Nat×Nat×Nat×An):=[(248,4,9,.loop { keep:=[0,1,7,11,9,8,12,6,10],kb:=[],pl:=[.slot 13 false (.int .i64),.slot 4 false .bool],ex:=[(.ret,[]),(.exit 0,[])],pay:=.unit })]
theorem mI (x:AG [(false,(.sl true T2)),(false,(.sl true T2))]):Aa Tryz.prog (AB pu cr) (AH jN) 3000 60 248 [(false,(.sl true T2)),(false,(.sl true T2))] [(false,.bool)] x=BK x:=by kernel_rfl
def cv:List (FuncId×Sg):=(248,⟨[(false,(.sl true T2)),(false,(.sl true T2))],[(false,.bool)],BK⟩)::cr
theorem cw:TabOK Tryz.prog (AB pu cv):=AE cu mI
end Go.Proofs.YthpkjfabdccpdaaGreat.Pt
