/- The evaluator comes to each of the plain functions. No condition. -/
import Derived.Test.YthpkjfabdccpdaaGreatPt3
set_option linter.all false
namespace Go.Proofs.YthpkjfabdccpdaaGreat.Pt
open Go Go.Proofs.YthpkjfabdccpdaaGreat.Sv Go.Proofs.YthpkjfabdccpdaaGreat.Pl
set_option maxRecDepth 1000000
set_option linter.unusedVariables false
def ks:List (Nat×Nat×Nat×An):=[(215,6,17,.loop { keep:=[0,1,3,15,11,19,5,9,17,13,2,4,12,10,18,14],kb:=[0],pl:=[.slot 20 false (.int .i64),.slot 6 false (.int .i64)],ex:=[(.exit 0,[])],pay:=.unit })]
theorem nk (x:AG [(true,T9)]):Ab Tryz.prog (AC pu dG) (AI ks) 3000 60 215 [(true,T9)] [(false,(.int .i64)),(false,(.int .i64))] x=F8 x:=by kernel_rfl
def dI:List (FuncId×Sg):=(215,⟨[(true,T9)],[(false,(.int .i64)),(false,(.int .i64))],F8⟩)::dG
theorem dJ:TabOK Tryz.prog (AC pu dI):=AE dH nk
theorem nl (x:AG [(true,IR)]):Ab Tryz.prog (AC pu dI) (AI []) 3000 60 167 [(true,IR)] [(false,(.int .i64)),(false,(.int .i64))] x=Bn x:=by kernel_rfl
def dK:List (FuncId×Sg):=(167,⟨[(true,IR)],[(false,(.int .i64)),(false,(.int .i64))],Bn⟩)::dI
theorem dL:TabOK Tryz.prog (AC pu dK):=AE dJ nl
theorem np (x:AG [(true,T9)]):Ab Tryz.prog (AC pu dK) (AI []) 3000 60 245 [(true,T9)] [(true,T2),(false,(.int .i64)),(true,T9),(false,(.int .i64))] x=Bq x:=by kernel_rfl
def dM:List (FuncId×Sg):=(245,⟨[(true,T9)],[(true,T2),(false,(.int .i64)),(true,T9),(false,(.int .i64))],Bq⟩)::dK
theorem dN:TabOK Tryz.prog (AC pu dM):=AE dL np
theorem nq (x:AG [(true,PJ),(true,T2)]):Ab Tryz.prog (AC pu dM) (AI []) 3000 60 246 [(true,PJ),(true,T2)] [(false,.bool),(true,PJ),(false,(.int .i64))] x=B0 x:=by kernel_rfl
def dO:List (FuncId×Sg):=(246,⟨[(true,PJ),(true,T2)],[(false,.bool),(true,PJ),(false,(.int .i64))],B0⟩)::dM
theorem dQ:TabOK Tryz.prog (AC pu dO):=AE dN nq
def ku:List (Nat×Nat×Nat×An):=[(216,2,81,.loop { keep:=[0,1,6],kb:=[0,1,39,67,68],pl:=[.slot 7 false (.int .i64),.slot 4 false (.int .i64),.box 28 [.lf (.sl false (.sl true T2)),.lf (.sl false (.int .i64)),.lf (.sl true T5),.lf (.sl false (.int .i64)),.lf (.int .i64),.lf .bool,.lf .str,.lf .bool,.ow true T2 false,.lf (.int .i64)]],ex:=[(.ret,[]),(.exit 0,[])],pay:=.unit }),(216,2,98,.loop { keep:=[0,1,6],kb:=[0,1,39,67,68,86],pl:=[.slot 7 false (.int .i64),.slot 4 false (.int .i64),.box 28 [.lf (.sl false (.sl true T2)),.lf (.sl false (.int .i64)),.lf (.sl true T5),.lf (.sl false (.int .i64)),.lf (.int .i64),.lf .bool,.lf .str,.lf .bool,.ow true T2 false,.lf (.int .i64)]],ex:=[(.ret,[]),(.exit 0,[])],pay:=.unit }),(216,2,133,.loop { keep:=[0,1,6],kb:=[0,1,39,67,68,86],pl:=[.slot 7 false (.int .i64),.slot 4 false (.int .i64),.box 28 [.lf (.sl false (.sl true T2)),.lf (.sl false (.int .i64)),.lf (.sl true T5),.lf (.sl false (.int .i64)),.lf (.int .i64),.lf .bool,.lf .str,.lf .bool,.ow true T2 false,.lf (.int .i64)]],ex:=[(.ret,[]),(.exit 0,[])],pay:=.unit }),(216,2,120,.loop { keep:=[0,1,6],kb:=[0,1,39,67,68,86],pl:=[.slot 7 false (.int .i64),.slot 4 false (.int .i64),.box 28 [.lf (.sl false (.sl true T2)),.lf (.sl false (.int .i64)),.lf (.sl true T5),.lf (.sl false (.int .i64)),.lf (.int .i64),.lf .bool,.lf .str,.lf .bool,.ow true T2 false,.lf (.int .i64)]],ex:=[(.ret,[]),(.exit 0,[])],pay:=.unit })]
theorem nr (x:AG [(true,IR),(false,(.int .i64))]):Ab Tryz.prog (AC pu dO) (AI ku) 3000 60 175 [(true,IR),(false,(.int .i64))] [(true,IR),(false,(.int .i64)),(false,(.int .i64))] x=CP x:=by kernel_rfl
def dR:List (FuncId×Sg):=(175,⟨[(true,IR),(false,(.int .i64))],[(true,IR),(false,(.int .i64)),(false,(.int .i64))],CP⟩)::dO
theorem dS:TabOK Tryz.prog (AC pu dR):=AE dQ nr
def kw:List (Nat×Nat×Nat×An):=[(248,4,9,.loop { keep:=[0,1,7,11,9,8,12,6,10],kb:=[],pl:=[.slot 13 false (.int .i64),.slot 4 false .bool],ex:=[(.ret,[]),(.exit 0,[])],pay:=.unit })]
theorem ns (x:AG [(false,(.sl true T2)),(false,(.sl true T2))]):Ab Tryz.prog (AC pu dR) (AI kw) 3000 60 248 [(false,(.sl true T2)),(false,(.sl true T2))] [(false,.bool)] x=BL x:=by kernel_rfl
def dT:List (FuncId×Sg):=(248,⟨[(false,(.sl true T2)),(false,(.sl true T2))],[(false,.bool)],BL⟩)::dR
theorem dU:TabOK Tryz.prog (AC pu dT):=AE dS ns
theorem nu (x:AG [(false,(.sl true T2)),(false,(.sl true T2))]):Ab Tryz.prog (AC pu dT) (AI []) 3000 60 222 [(false,(.sl true T2)),(false,(.sl true T2))] [(false,.bool)] x=Bb x:=by kernel_rfl
def dV:List (FuncId×Sg):=(222,⟨[(false,(.sl true T2)),(false,(.sl true T2))],[(false,.bool)],Bb⟩)::dT
theorem dW:TabOK Tryz.prog (AC pu dV):=AE dU nu
def ky:List (Nat×Nat×Nat×An):=[(221,4,81,.loop { keep:=[0,1,15,11,13,2,16,12,10,14],kb:=[0,1,7,8],pl:=[.slot 17 false (.int .i64),.slot 6 false .bool],ex:=[(.ret,[]),(.exit 0,[])],pay:=.unit })]
theorem nv (x:AG [(true,IR),(true,IR)]):Ab Tryz.prog (AC pu dV) (AI ky) 3000 60 183 [(true,IR),(true,IR)] [(false,.bool)] x=DJ x:=by kernel_rfl
def dX:List (FuncId×Sg):=(183,⟨[(true,IR),(true,IR)],[(false,.bool)],DJ⟩)::dV
theorem dY:TabOK Tryz.prog (AC pu dX):=AE dW nv
def kz:List (Nat×Nat×Nat×An):=[(219,1,52,.loop { keep:=[0,1,7,5,6],kb:=[0,47,35,46],pl:=[.slot 8 false (.int .i64),.box 43 [.ow false (.int .i64) false]],ex:=[(.exit 0,[(47,0,none)])],pay:=.unit }),(107,10,59,.loop { keep:=[0,1,15,31,47,23,39,19,35,27,43,17,33,25,41,21,37,29,45,4,16,32,40,20,36,28,44,18,34,26,42,14,22,38,30,46],kb:=[0,47,35,43,52],pl:=[.slot 3 false (.int .i64),.slot 2 false (.int .i64),.slot 48 false (.int .i64)],ex:=[(.ret,[(47,3,none)]),(.exit 1,[(47,3,none)])],pay:=.unit })]
theorem ny (x:AG [(true,Lg)]):Ab Tryz.prog (AC pu dX) (AI kz) 3000 60 107 [(true,Lg)] [(false,(.int .i64)),(false,(.int .i64))] x=Be x:=by kernel_rfl
def dZ:List (FuncId×Sg):=(107,⟨[(true,Lg)],[(false,(.int .i64)),(false,(.int .i64))],Be⟩)::dX
theorem da:TabOK Tryz.prog (AC pu dZ):=AE dY ny
theorem qJ (x:AG [(true,GV)]):Ab Tryz.prog (AC pu dZ) (AI []) 3000 60 56 [(true,GV)] [(false,(.int .i64)),(false,(.int .i64))] x=DD x:=by kernel_rfl
def db:List (FuncId×Sg):=(56,⟨[(true,GV)],[(false,(.int .i64)),(false,(.int .i64))],DD⟩)::dZ
theorem de:TabOK Tryz.prog (AC pu db):=AE da qJ
theorem qK (x:AG [(false,.str),(false,(.int .i64))]):Ab Tryz.prog (AC pu db) (AI []) 3000 60 62 [(false,.str),(false,(.int .i64))] [(true,T2)] x=Du x:=by kernel_rfl
def dg:List (FuncId×Sg):=(62,⟨[(false,.str),(false,(.int .i64))],[(true,T2)],Du⟩)::db
theorem dh:TabOK Tryz.prog (AC pu dg):=AE de qK
def lA:List (Nat×Nat×Nat×An):=[(208,7,17,.loop { keep:=[0,1,15,11,19,5,13,21,2,16,12,20,6,10,18,14,22],kb:=[0],pl:=[.slot 23 false (.int .i64),.slot 4 false (.int .i64)],ex:=[(.ret,[]),(.exit 0,[])],pay:=.unit })]
theorem nz (x:AG [(true,T3),(false,(.sl true T2))]):Ab Tryz.prog (AC pu dg) (AI lA) 3000 60 208 [(true,T3),(false,(.sl true T2))] [(false,(.int .i64))] x=Do x:=by kernel_rfl
def di:List (FuncId×Sg):=(208,⟨[(true,T3),(false,(.sl true T2))],[(false,(.int .i64))],Do⟩)::dg
theorem dj:TabOK Tryz.prog (AC pu di):=AE dh nz
def lB:List (Nat×Nat×Nat×An):=[(252,2,13,.loop { keep:=[0,1,4,8],kb:=[0,1],pl:=[.slot 5 false (.int .i64),.slot 6 false (.int .i64)],ex:=[(.exit 0,[])],pay:=.unit })]
theorem oA (x:AG [(false,(.sl true T2)),(false,.str)]):Ab Tryz.prog (AC pu di) (AI lB) 3000 60 237 [(false,(.sl true T2)),(false,.str)] [(false,(.int .i64)),(false,.bool)] x=DY x:=by kernel_rfl
def dk:List (FuncId×Sg):=(237,⟨[(false,(.sl true T2)),(false,.str)],[(false,(.int .i64)),(false,.bool)],DY⟩)::di
theorem dl:TabOK Tryz.prog (AC pu dk):=AE dj oA
def lC:List (Nat×Nat×Nat×An):=[(209,4,16,.loop { keep:=[0,1,15,11,19,13,2,16,12,18],kb:=[0],pl:=[.slot 5 false (.int .i64),.swin 4 true T2,.slot 20 false (.int .i64),.slot 6 false .bool],ex:=[(.exit 0,[])],pay:=.unit })]
theorem oB (x:AG [(true,T3),(false,(.sl true T2))]):Ab Tryz.prog (AC pu dk) (AI lC) 3000 60 209 [(true,T3),(false,(.sl true T2))] [(false,(.sl true T2)),(false,(.int .i64)),(false,.bool)] x=C5 x:=by kernel_rfl
def dm:List (FuncId×Sg):=(209,⟨[(true,T3),(false,(.sl true T2))],[(false,(.sl true T2)),(false,(.int .i64)),(false,.bool)],C5⟩)::dk
theorem dq:TabOK Tryz.prog (AC pu dm):=AE dl oB
end Go.Proofs.YthpkjfabdccpdaaGreat.Pt
