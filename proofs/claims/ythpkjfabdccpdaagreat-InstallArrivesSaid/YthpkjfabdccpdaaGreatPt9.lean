/- The evaluator comes to each of the plain functions. No condition. -/
import Derived.Test.YthpkjfabdccpdaaGreatPt8
set_option linter.all false
namespace Go.Proofs.YthpkjfabdccpdaaGreat.Pt
open Go Go.Proofs.YthpkjfabdccpdaaGreat.Sv Go.Proofs.YthpkjfabdccpdaaGreat.Pl
set_option maxRecDepth 1000000
set_option linter.unusedVariables false
def jd:List (Nat×Nat×Nat×An):=[(118,11,32,.loop { keep:=[0,1,7,15,31,23,39,19,35,27,5,9,17,33,25,21,37,2,4,8,16,32,24,20,36,6,10,18,34,26,22,30],kb:=[0,1],pl:=[.slot 11 false (.int .i64),.box 29 [.lf (.sl false (.sl true T2)),.lf (.sl false (.int .i64)),.lf (.sl true T5),.lf (.sl false (.int .i64)),.lf (.int .i64),.lf .bool,.lf .str,.lf .bool,.lf (.sl true T2),.lf (.int .i64)]],ex:=[(.exit 0,[])],pay:=.unit })]
theorem mz (x:AG [(true,H4),(false,(.int .i64))]):Aa Tryz.prog (AB pu U0) (AH jd) 3000 60 118 [(true,H4),(false,(.int .i64))] [(true,H4),(false,(.int .i64)),(false,(.int .i64))] x=BO x:=by kernel_rfl
def U1:List (FuncId×Sg):=(118,⟨[(true,H4),(false,(.int .i64))],[(true,H4),(false,(.int .i64)),(false,(.int .i64))],BO⟩)::U0
theorem Xl:TabOK Tryz.prog (AB pu U1):=AE Xk mz
def je:List (Nat×Nat×Nat×An):=[(197,4,27,.loop { keep:=[0,1,3,7,15,23,11,19,27,9,17,25,13,21,2,8,16,24,12,20,28,6,10,18,26,14,22],kb:=[0,1],pl:=[.slot 5 false (.int .i64),.slot 4 false .bool],ex:=[(.ret,[]),(.exit 0,[])],pay:=.unit })]
theorem m6 (x:AG [(true,T9),(true,T9)]):Aa Tryz.prog (AB pu U1) (AH je) 3000 60 197 [(true,T9),(true,T9)] [(false,.bool)] x=F4 x:=by kernel_rfl
def U2:List (FuncId×Sg):=(197,⟨[(true,T9),(true,T9)],[(false,.bool)],F4⟩)::U1
theorem Xm:TabOK Tryz.prog (AB pu U2):=AE Xl m6
theorem m7 (x:AG [(true,H4),(true,H4)]):Aa Tryz.prog (AB pu U2) (AH []) 3000 60 119 [(true,H4),(true,H4)] [(false,.bool)] x=BI x:=by kernel_rfl
def U3:List (FuncId×Sg):=(119,⟨[(true,H4),(true,H4)],[(false,.bool)],BI⟩)::U2
theorem Xn:TabOK Tryz.prog (AB pu U3):=AE Xm m7
def m8:List (Nat×Nat×Nat×An):=[(38,10,42,.loop { keep:=[0,1,7,31,23,39,19,35,27,43,5,17,33,49,25,41,21,37,29,45,4,16,32,48,24,40,20,36,28,44,6,18,34,50,26,42,22,38,30,46],kb:=[0],pl:=[.slot 3 false (.int .i64),.slot 2 false (.int .i64),.slot 8 false (.int .i64)],ex:=[(.ret,[]),(.exit 0,[])],pay:=.unit })]
theorem oB (x:AG [(true,E5)]):Aa Tryz.prog (AB pu U3) (AH m8) 3000 60 38 [(true,E5)] [(false,(.int .i64)),(false,(.int .i64))] x=EH x:=by kernel_rfl
def U4:List (FuncId×Sg):=(38,⟨[(true,E5)],[(false,(.int .i64)),(false,(.int .i64))],EH⟩)::U3
theorem Xo:TabOK Tryz.prog (AB pu U4):=AE Xn oB
theorem oC (x:AG [(true,T4),(false,(.int .i64))]):Va Tryz.prog (AB pu U4) (AH []) 3000 60 42 [(true,T4),(false,(.int .i64))] true T3 x=DC x:=by kernel_rfl
def U5:List (FuncId×Sg):=(4194346,⟨[(true,T4),(false,(.int .i64))],[(false,(.sl true T3))],DC⟩)::U4
theorem Xp:TabOK Tryz.prog (AB pu U5):=fD (f:=42) Xo oC
def m9:List (Nat×Nat×Nat×An):=[(96,3,8,.loop { keep:=[0,1,3,7,11,2,12,6,10],kb:=[0,1],pl:=[.slot 8 false (.int .i64),.box 5 [.lf (.int .i64),.ow true (.sl true T3) false]],ex:=[(.exit 0,[])],pay:=.unit }),(96,9,9,.loop { keep:=[0,1,3,7,11,2,8,12,6,10],kb:=[0,1],pl:=[.box 5 [.lf (.int .i64),.lf (.sl true (.sl true T3))]],ex:=[(.exit 2,[])],pay:=.unit,rel:=[(5,1)] })]
theorem oD (x:AG [(true,T4),(false,(.int .i64)),(false,(.sl true T3))]):Aa Tryz.prog (AB pu U5) (AH m9) 3000 60 96 [(true,T4),(false,(.int .i64)),(false,(.sl true T3))] [(true,T4)] x=DB x:=by kernel_rfl
def U6:List (FuncId×Sg):=(96,⟨[(true,T4),(false,(.int .i64)),(false,(.sl true T3))],[(true,T4)],DB⟩)::U5
theorem Xq:TabOK Tryz.prog (AB pu U6):=AE Xp oD
def jf:List (Nat×Nat×Nat×An):=[(111,7,19,.loop { keep:=[0,1,3,7,15,23,11,5,17,13,21,2,8,16,24,20,6,10,14,22],kb:=[0,1,2],pl:=[.srow 9 false (.int .i64) false,.slot 12 false (.int .i64)],ex:=[(.exit 0,[])],pay:=.unit })]
theorem nA (x:AG [(true,T4),(false,(.int .i64)),(true,T3)]):Aa Tryz.prog (AB pu U6) (AH jf) 3000 60 111 [(true,T4),(false,(.int .i64)),(true,T3)] [(true,T4),(false,(.int .i64))] x=Ei x:=by kernel_rfl
def U7:List (FuncId×Sg):=(111,⟨[(true,T4),(false,(.int .i64)),(true,T3)],[(true,T4),(false,(.int .i64))],Ei⟩)::U6
theorem Xr:TabOK Tryz.prog (AB pu U7):=AE Xq nA
theorem nB (x:AG [(true,T4),(false,(.int .i64))]):Aa Tryz.prog (AB pu U7) (AH []) 3000 60 174 [(true,T4),(false,(.int .i64))] [(true,JA),(false,(.int .i64))] x=DS x:=by kernel_rfl
def U8:List (FuncId×Sg):=(174,⟨[(true,T4),(false,(.int .i64))],[(true,JA),(false,(.int .i64))],DS⟩)::U7
theorem Xs:TabOK Tryz.prog (AB pu U8):=AE Xr nB
def nC:List (Nat×Nat×Nat×An):=[(37,1002003,10,.join { keep:=[0,1,11,5,13,2,4,12,6,10,14],kb:=[0,1],pl0:=[.slot 7 false (.int .i64)],pl1:=[.slot 7 false (.int .i64)],ex:=[],pay:=.unit }),(37,1002002,10,.join { keep:=[0,1,7,11,5,13,2,4,12,6,10,14],kb:=[0,1],pl0:=[],pl1:=[.slot 28 false .bool],ex:=[],pay:=.unit }),(37,1008009,24,.join { keep:=[0,1,39,11,35,5,33,41,13,37,29,2,4,8,40,12,36,6,10,34,14,38,30],kb:=[0,1,16],pl0:=[.slot 7 false (.int .i64)],pl1:=[.slot 7 false (.int .i64)],ex:=[],pay:=.unit }),(37,1008008,24,.join { keep:=[0,1,7,39,11,35,5,33,41,13,37,29,2,4,8,40,12,36,6,10,34,14,38,30],kb:=[0,1,16],pl0:=[],pl1:=[.slot 48 false .bool],ex:=[],pay:=.unit }),(97,3,55,.loop { keep:=[0,1,3,7,13,2,4,12,6,14],kb:=[0,1,47,33,49,16],pl:=[.slot 8 false (.int .i64),.box 48 [.lf (.int .i64),.lf (.sl true (.sl true T3)),.ow true JA false,.lf (.int .i64)]],ex:=[(.exit 0,[])],pay:=.unit }),(97,7,73,.loop { keep:=[0,1,3,7,15,23,27,9,17,25,13,21,29,2,4,8,16,24,12,28,6,10,18,26,14,22,30],kb:=[0,1,47,33,49,16,48],pl:=[.slot 11 false (.int .i64),.box 69 [.lf (.int .i64),.lf (.sl false (.sl true T2)),.lf (.sl false (.int .i64)),.lf (.sl true T5),.lf (.sl false (.int .i64)),.lf (.int .i64),.lf .bool,.lf .str,.lf .bool,.lf (.sl true T2),.lf (.int .i64)]],ex:=[(.exit 2,[])],pay:=.unit }),(97,7,74,.loop { keep:=[0,1,3,7,15,23,27,9,17,25,13,21,29,2,4,8,16,24,12,28,6,10,18,26,14,22,30],kb:=[0,1,47,55,33,49,16,48],pl:=[.slot 11 false (.int .i64),.box 70 [.lf (.int .i64),.lf (.sl false (.sl true T2)),.lf (.sl false (.int .i64)),.lf (.sl true T5),.lf (.sl false (.int .i64)),.lf (.int .i64),.lf .bool,.lf .str,.lf .bool,.lf (.sl true T2),.lf (.int .i64)]],ex:=[(.exit 2,[])],pay:=.unit })]
theorem oE (x:AG [(true,E5),(false,(.sl true T2))]):Aa Tryz.prog (AB pu U8) (AH nC) 3000 60 37 [(true,E5),(false,(.sl true T2))] [(true,E5),(false,(.int .i64))] x=Ej x:=by kernel_rfl
def U9:List (FuncId×Sg):=(37,⟨[(true,E5),(false,(.sl true T2))],[(true,E5),(false,(.int .i64))],Ej⟩)::U8
theorem Xt:TabOK Tryz.prog (AB pu U9):=AE Xs oE
def nD:List (Nat×Nat×Nat×An):=[(40,2,2,.loop { keep:=[0,1],kb:=[],pl:=[.slot 5 false (.int .i64),.slot 4 false .bool],ex:=[(.ret,[]),(.exit 0,[])],pay:=.unit })]
theorem oF (x:AG [(false,(.sl true T2)),(false,(.sl true T2))]):Aa Tryz.prog (AB pu U9) (AH nD) 3000 60 40 [(false,(.sl true T2)),(false,(.sl true T2))] [(false,.bool)] x=Dh x:=by kernel_rfl
def VA:List (FuncId×Sg):=(40,⟨[(false,(.sl true T2)),(false,(.sl true T2))],[(false,.bool)],Dh⟩)::U9
theorem Xu:TabOK Tryz.prog (AB pu VA):=AE Xt oF
theorem nE (x:AG [(true,T3),(true,T3)]):Aa Tryz.prog (AB pu VA) (AH []) 3000 60 124 [(true,T3),(true,T3)] [(false,.bool)] x=D9 x:=by kernel_rfl
def VB:List (FuncId×Sg):=(124,⟨[(true,T3),(true,T3)],[(false,.bool)],D9⟩)::VA
theorem Xv:TabOK Tryz.prog (AB pu VB):=AE Xu nE
def nF:List (Nat×Nat×Nat×An):=[(43,4,7,.loop { keep:=[0,1,7,9,8,6,10],kb:=[],pl:=[.slot 5 false (.int .i64),.slot 4 false .bool],ex:=[(.ret,[]),(.exit 0,[])],pay:=.unit })]
theorem oG (x:AG [(false,(.sl true T3)),(false,(.sl true T3))]):Aa Tryz.prog (AB pu VB) (AH nF) 3000 60 43 [(false,(.sl true T3)),(false,(.sl true T3))] [(false,.bool)] x=Di x:=by kernel_rfl
def VC:List (FuncId×Sg):=(43,⟨[(false,(.sl true T3)),(false,(.sl true T3))],[(false,.bool)],Di⟩)::VB
theorem Xw:TabOK Tryz.prog (AB pu VC):=AE Xv oG
def nG:List (Nat×Nat×Nat×An):=[(98,4,18,.loop { keep:=[0,1,3,7,15,11,19,9,17,13,2,8,16,12,6,10,18,14],kb:=[0,1],pl:=[.slot 5 false (.int .i64),.slot 4 false .bool],ex:=[(.ret,[]),(.exit 0,[])],pay:=.unit })]
theorem oH (x:AG [(true,T4),(true,T4)]):Aa Tryz.prog (AB pu VC) (AH nG) 3000 60 98 [(true,T4),(true,T4)] [(false,.bool)] x=GD x:=by kernel_rfl
def VD:List (FuncId×Sg):=(98,⟨[(true,T4),(true,T4)],[(false,.bool)],GD⟩)::VC
theorem Xx:TabOK Tryz.prog (AB pu VD):=AE Xw oH
theorem oI (x:AG [(true,JA),(true,JA)]):Aa Tryz.prog (AB pu VD) (AH []) 3000 60 99 [(true,JA),(true,JA)] [(false,.bool)] x=EA x:=by kernel_rfl
def VE:List (FuncId×Sg):=(99,⟨[(true,JA),(true,JA)],[(false,.bool)],EA⟩)::VD
theorem Xy:TabOK Tryz.prog (AB pu VE):=AE Xx oI
end Go.Proofs.YthpkjfabdccpdaaGreat.Pt
