/- The evaluator comes to each of the plain functions. No condition. -/
import Derived.Test.YthpkjfabdccpdaaGreatPt2
set_option linter.all false
namespace Go.Proofs.YthpkjfabdccpdaaGreat.Pt
open Go Go.Proofs.YthpkjfabdccpdaaGreat.Sv Go.Proofs.YthpkjfabdccpdaaGreat.Pl
set_option maxRecDepth 1000000
set_option linter.unusedVariables false
def jq:List (Nat×Nat×Nat×An):=[(197,4,27,.loop { keep:=[0,1,3,7,15,23,11,19,27,9,17,25,13,21,2,8,16,24,12,20,28,6,10,18,26,14,22],kb:=[0,1],pl:=[.slot 5 false (.int .i64),.slot 4 false .bool],ex:=[(.ret,[]),(.exit 0,[])],pay:=.unit })]
theorem l9 (x:AG [(true,T9),(true,T9)]):Ac Tryz.prog (AC pu bg) (AI jq) 3000 60 197 [(true,T9),(true,T9)] [(false,.bool)] x=GG x:=by kernel_rfl
def bj:List (FuncId×Sg):=(197,⟨[(true,T9),(true,T9)],[(false,.bool)],GG⟩)::bg
theorem bm:TabOK Tryz.prog (AC pu bj):=AF bh l9
theorem mA (x:AG [(true,IE),(true,IE)]):Ac Tryz.prog (AC pu bj) (AI []) 3000 60 119 [(true,IE),(true,IE)] [(false,.bool)] x=BK x:=by kernel_rfl
def bn:List (FuncId×Sg):=(119,⟨[(true,IE),(true,IE)],[(false,.bool)],BK⟩)::bj
theorem bo:TabOK Tryz.prog (AC pu bn):=AF bm mA
def mB:List (Nat×Nat×Nat×An):=[(38,10,42,.loop { keep:=[0,1,7,31,23,39,19,35,27,43,5,17,33,49,25,41,21,37,29,45,4,16,32,48,24,40,20,36,28,44,6,18,34,50,26,42,22,38,30,46],kb:=[0],pl:=[.slot 3 false (.int .i64),.slot 2 false (.int .i64),.slot 8 false (.int .i64)],ex:=[(.ret,[]),(.exit 0,[])],pay:=.unit })]
theorem oL (x:AG [(true,Ge)]):Ac Tryz.prog (AC pu bn) (AI mB) 3000 60 38 [(true,Ge)] [(false,(.int .i64)),(false,(.int .i64))] x=CX x:=by kernel_rfl
def bp:List (FuncId×Sg):=(38,⟨[(true,Ge)],[(false,(.int .i64)),(false,(.int .i64))],CX⟩)::bn
theorem bq:TabOK Tryz.prog (AC pu bp):=AF bo oL
def mC:List (Nat×Nat×Nat×An):=[(84,2,2,.loop { keep:=[0],kb:=[],pl:=[.slot 3 false (.int .i64),.slot 2 false .bool],ex:=[(.ret,[]),(.exit 0,[])],pay:=.unit })]
theorem oM (x:AG [(false,(.sl true T2))]):Ac Tryz.prog (AC pu bp) (AI mC) 3000 60 84 [(false,(.sl true T2))] [(false,.bool)] x=Cv x:=by kernel_rfl
def bu:List (FuncId×Sg):=(84,⟨[(false,(.sl true T2))],[(false,.bool)],Cv⟩)::bp
theorem bw:TabOK Tryz.prog (AC pu bu):=AF bq oM
def mD:List (Nat×Nat×Nat×An):=[(35,2,2,.loop { keep:=[0],kb:=[],pl:=[.slot 3 false (.int .i64),.slot 2 false .bool],ex:=[(.ret,[]),(.exit 0,[])],pay:=.unit })]
theorem oN (x:AG [(false,(.sl true T2))]):Ac Tryz.prog (AC pu bu) (AI mD) 3000 60 35 [(false,(.sl true T2))] [(false,.bool)] x=E4 x:=by kernel_rfl
def bx:List (FuncId×Sg):=(35,⟨[(false,(.sl true T2))],[(false,.bool)],E4⟩)::bu
theorem bz:TabOK Tryz.prog (AC pu bx):=AF bw oN
def jr:List (Nat×Nat×Nat×An):=[(165,2,2,.loop { keep:=[0],kb:=[],pl:=[.slot 3 false (.int .i64),.slot 2 false .bool],ex:=[(.ret,[]),(.exit 0,[])],pay:=.unit })]
theorem mE (x:AG [(false,(.sl true T3))]):Ac Tryz.prog (AC pu bx) (AI jr) 3000 60 165 [(false,(.sl true T3))] [(false,.bool)] x=C5 x:=by kernel_rfl
def cA:List (FuncId×Sg):=(165,⟨[(false,(.sl true T3))],[(false,.bool)],C5⟩)::bx
theorem cB:TabOK Tryz.prog (AC pu cA):=AF bz mE
def mF:List (Nat×Nat×Nat×An):=[(85,2,3,.loop { keep:=[0,1],kb:=[0],pl:=[.slot 3 false (.int .i64),.slot 2 false .bool],ex:=[(.ret,[]),(.exit 0,[])],pay:=.unit })]
theorem oO (x:AG [(true,T4)]):Ac Tryz.prog (AC pu cA) (AI mF) 3000 60 85 [(true,T4)] [(false,.bool)] x=GI x:=by kernel_rfl
def cC:List (FuncId×Sg):=(85,⟨[(true,T4)],[(false,.bool)],GI⟩)::cA
theorem cD:TabOK Tryz.prog (AC pu cC):=AF cB oO
def mG:List (Nat×Nat×Nat×An):=[(22,2,3,.loop { keep:=[0,1],kb:=[0],pl:=[.slot 3 false (.int .i64),.slot 2 false .bool],ex:=[(.exit 0,[]),(.ret,[])],pay:=.unit }),(22,6,21,.loop { keep:=[0,1,3,7,11,19,9,17,13,21,4,8,12,20,6,10,18,14,22],kb:=[0,18],pl:=[.slot 5 false (.int .i64),.slot 2 false .bool],ex:=[(.ret,[]),(.exit 2,[])],pay:=.unit })]
theorem oQ (x:AG [(true,Ge)]):Ac Tryz.prog (AC pu cC) (AI mG) 3000 60 22 [(true,Ge)] [(false,.bool)] x=GJ x:=by kernel_rfl
def cE:List (FuncId×Sg):=(22,⟨[(true,Ge)],[(false,.bool)],GJ⟩)::cC
theorem cF:TabOK Tryz.prog (AC pu cE):=AF cD oQ
def jt:List (Nat×Nat×Nat×An):=[(166,3,6,.loop { keep:=[0,1,7,9,2,6,10],kb:=[0],pl:=[.slot 8 false (.int .i64),.box 3 [.lf (.int .i64),.ow true T2 false]],ex:=[(.exit 0,[])],pay:=.unit })]
theorem mH (x:AG [(false,(.int .i64)),(false,.bool),(false,.str)]):Ac Tryz.prog (AC pu cE) (AI jt) 3000 60 166 [(false,(.int .i64)),(false,.bool),(false,.str)] [(true,T3)] x=JD x:=by kernel_rfl
def cG:List (FuncId×Sg):=(166,⟨[(false,(.int .i64)),(false,.bool),(false,.str)],[(true,T3)],JD⟩)::cE
theorem cI:TabOK Tryz.prog (AC pu cG):=AF cF mH
theorem oR (x:AG []):Ac Tryz.prog (AC pu cG) (AI []) 3000 60 87 [] [(true,T4)] x=G7 x:=by kernel_rfl
def cJ:List (FuncId×Sg):=(87,⟨[],[(true,T4)],G7⟩)::cG
theorem cK:TabOK Tryz.prog (AC pu cJ):=AF cI oR
def mI:List (Nat×Nat×Nat×An):=[(86,7,25,.loop { keep:=[0,1,3,7,15,23,11,5,17,25,13,21,2,4,8,16,24,12,20,6,10,26,14,22],kb:=[0,1],pl:=[.slot 9 false (.int .i64),.box 19 [.lf (.int .i64),.lf (.sl true (.sl true T3)),.ow true Lb false,.lf (.int .i64)]],ex:=[(.exit 0,[])],pay:=.unit })]
theorem oS (x:AG [(true,T4)]):Ac Tryz.prog (AC pu cJ) (AI mI) 3000 60 86 [(true,T4)] [(true,Ge),(false,(.int .i64))] x=LW x:=by kernel_rfl
def cL:List (FuncId×Sg):=(86,⟨[(true,T4)],[(true,Ge),(false,(.int .i64))],LW⟩)::cJ
theorem cM:TabOK Tryz.prog (AC pu cL):=AF cK oS
theorem mJ (x:AG [(false,.str)]):Ac Tryz.prog (AC pu cL) (AI []) 3000 60 235 [(false,.str)] [(false,(.int .i64))] x=Ey x:=by kernel_rfl
def cN:List (FuncId×Sg):=(235,⟨[(false,.str)],[(false,(.int .i64))],Ey⟩)::cL
theorem cO:TabOK Tryz.prog (AC pu cN):=AF cM mJ
theorem mK (x:AG [(true,T2)]):Ac Tryz.prog (AC pu cN) (AI []) 3000 60 204 [(true,T2)] [(false,(.int .i64))] x=CK x:=by kernel_rfl
def cQ:List (FuncId×Sg):=(204,⟨[(true,T2)],[(false,(.int .i64))],CK⟩)::cN
theorem cR:TabOK Tryz.prog (AC pu cQ):=AF cO mK
def ju:List (Nat×Nat×Nat×An):=[(184,4,8,.loop { keep:=[0,7,11,9,8,10],kb:=[],pl:=[.slot 3 false (.int .i64),.slot 2 false (.int .i64),.slot 12 false (.int .i64)],ex:=[(.ret,[]),(.exit 0,[])],pay:=.unit })]
theorem mL (x:AG [(false,(.sl true T2))]):Ac Tryz.prog (AC pu cQ) (AI ju) 3000 60 184 [(false,(.sl true T2))] [(false,(.int .i64)),(false,(.int .i64))] x=BN x:=by kernel_rfl
def cS:List (FuncId×Sg):=(184,⟨[(false,(.sl true T2))],[(false,(.int .i64)),(false,(.int .i64))],BN⟩)::cQ
theorem cU:TabOK Tryz.prog (AC pu cS):=AF cR mL
end Go.Proofs.YthpkjfabdccpdaaGreat.Pt
