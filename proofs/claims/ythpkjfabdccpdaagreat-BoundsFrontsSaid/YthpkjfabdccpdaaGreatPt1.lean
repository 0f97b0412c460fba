/- The evaluator comes to each of the plain functions. No condition. -/
import Derived.Test.YthpkjfabdccpdaaGreatPt0
set_option linter.all false
namespace Go.Proofs.YthpkjfabdccpdaaGreat.Pt
open Go Go.Proofs.YthpkjfabdccpdaaGreat.Sv Go.Proofs.YthpkjfabdccpdaaGreat.Pl
set_option maxRecDepth 1000000
set_option linter.unusedVariables false
theorem jp (x:AE [(true,T3)]):Ab Tryz.prog (AB pu ZU) (AI []) 3000 60 110 [(true,T3)] [(false,(.int .i64)),(false,(.int .i64))] x=E2 x:=by kernel_rfl
def ZW:List (FuncId×Sg):=(110,⟨[(true,T3)],[(false,(.int .i64)),(false,(.int .i64))],E2⟩)::ZU
theorem ZX:TabOK Tryz.prog (AB pu ZW):=AD ZV jp
def iF:List (Nat×Nat×Nat×An):=[(187,9,21,.loop { keep:=[0,1,3,7,15,23,11,19,25,13,21,2,8,16,24,12,20,10,18,26,14,22],kb:=[0],pl:=[.slot 9 false (.int .i64),.slot 6 false (.int .i64)],ex:=[(.ret,[]),(.exit 0,[])],pay:=.unit })]
theorem jq (x:AE [(true,T3),(false,(.int .i64)),(false,(.sl false (.int .i64)))]):Ab Tryz.prog (AB pu ZW) (AI iF) 3000 60 187 [(true,T3),(false,(.int .i64)),(false,(.sl false (.int .i64)))] [(false,(.int .i64))] x=Dp x:=by kernel_rfl
def ZY:List (FuncId×Sg):=(187,⟨[(true,T3),(false,(.int .i64)),(false,(.sl false (.int .i64)))],[(false,(.int .i64))],Dp⟩)::ZW
theorem ZZ:TabOK Tryz.prog (AB pu ZY):=AD ZX jq
def iG:List (Nat×Nat×Nat×An):=[(112,7,18,.loop { keep:=[0,1,15,11,19,17,13,21,16,12,20,10,18,14],kb:=[0],pl:=[.slot 3 false (.int .i64),.srow 5 false (.int .i64) false,.slot 2 false (.int .i64),.slot 4 false (.int .i64),.slot 6 false (.int .i64)],ex:=[(.ret,[]),(.exit 0,[])],pay:=.unit }),(112,13,35,.loop { keep:=[0,1,7,15,31,23,11,19,35,17,33,25,13,21,37,29,16,32,24,12,20,36,6,10,18,34,26,14,22,30],kb:=[0],pl:=[.slot 3 false (.int .i64),.srow 5 false (.int .i64) false,.slot 2 false (.int .i64),.slot 4 false (.int .i64),.slot 8 false (.int .i64)],ex:=[(.ret,[]),(.exit 2,[])],pay:=.unit })]
theorem jr (x:AE [(true,T4)]):Ab Tryz.prog (AB pu ZY) (AI iG) 3000 60 112 [(true,T4)] [(false,(.int .i64)),(false,(.int .i64)),(false,(.int .i64))] x=Cd x:=by kernel_rfl
def Za:List (FuncId×Sg):=(112,⟨[(true,T4)],[(false,(.int .i64)),(false,(.int .i64)),(false,(.int .i64))],Cd⟩)::ZY
theorem Zb:TabOK Tryz.prog (AB pu Za):=AD ZZ jr
def iH:List (Nat×Nat×Nat×An):=[(120,6,16,.loop { keep:=[0,1,3,15,11,5,17,13,2,4,16,12,6,10,14],kb:=[0],pl:=[.srow 7 true T3 false,.slot 8 false (.int .i64)],ex:=[(.exit 0,[])],pay:=.unit }),(120,9,31,.loop { keep:=[0,1,3,15,31,23,11,19,27,5,17,33,13,21,29,2,4,8,16,32,12,20,28,6,10,26,14,22,30],kb:=[0],pl:=[.srow 7 true T3 false,.slot 9 false (.int .i64)],ex:=[(.exit 2,[])],pay:=.unit })]
theorem jt (x:AE [(true,T4)]):Ab Tryz.prog (AB pu Za) (AI iH) 3000 60 120 [(true,T4)] [(false,(.sl true T3)),(false,(.int .i64))] x=Db x:=by kernel_rfl
def Zc:List (FuncId×Sg):=(120,⟨[(true,T4)],[(false,(.sl true T3)),(false,(.int .i64))],Db⟩)::Za
theorem Zd:TabOK Tryz.prog (AB pu Zc):=AD Zb jt
def iI:List (Nat×Nat×Nat×An):=[(113,4,11,.loop { keep:=[0,1,3,7,11,9,2,4,8,10],kb:=[0],pl:=[.slot 5 false (.int .i64),.slot 6 false (.int .i64)],ex:=[(.exit 0,[])],pay:=.unit })]
theorem ju (x:AE [(true,T4)]):Ab Tryz.prog (AB pu Zc) (AI iI) 3000 60 113 [(true,T4)] [(false,(.int .i64))] x=CB x:=by kernel_rfl
def Ze:List (FuncId×Sg):=(113,⟨[(true,T4)],[(false,(.int .i64))],CB⟩)::Zc
theorem Zf:TabOK Tryz.prog (AB pu Ze):=AD Zd ju
def iJ:List (Nat×Nat×Nat×An):=[(114,3,4,.loop { keep:=[0,1,2],kb:=[0],pl:=[.srow 3 false (.int .i64) false,.slot 4 false (.int .i64)],ex:=[(.exit 0,[])],pay:=.unit })]
theorem jv (x:AE [(true,T4)]):Ab Tryz.prog (AB pu Ze) (AI iJ) 3000 60 114 [(true,T4)] [(false,(.sl false (.int .i64)))] x=Ce x:=by kernel_rfl
def Zg:List (FuncId×Sg):=(114,⟨[(true,T4)],[(false,(.sl false (.int .i64)))],Ce⟩)::Ze
theorem Zh:TabOK Tryz.prog (AB pu Zg):=AD Zf jv
theorem jw (x:AE [(true,T4),(false,(.int .i64))]):Ab Tryz.prog (AB pu Zg) (AI []) 3000 60 186 [(true,T4),(false,(.int .i64))] [(false,(.int .i64))] x=HH x:=by kernel_rfl
def Zi:List (FuncId×Sg):=(186,⟨[(true,T4),(false,(.int .i64))],[(false,(.int .i64))],HH⟩)::Zg
theorem Zj:TabOK Tryz.prog (AB pu Zi):=AD Zh jw
theorem jx (x:AE [(true,T4),(false,(.int .i64))]):Ab Tryz.prog (AB pu Zi) (AI []) 3000 60 189 [(true,T4),(false,(.int .i64))] [(false,.bool),(false,(.int .i64))] x=GQ x:=by kernel_rfl
def Zk:List (FuncId×Sg):=(189,⟨[(true,T4),(false,(.int .i64))],[(false,.bool),(false,(.int .i64))],GQ⟩)::Zi
theorem Zl:TabOK Tryz.prog (AB pu Zk):=AD Zj jx
theorem jy (x:AE [(true,T4),(false,(.int .i64))]):Ab Tryz.prog (AB pu Zk) (AI []) 3000 60 115 [(true,T4),(false,(.int .i64))] [(false,.bool)] x=Bj x:=by kernel_rfl
def Zm:List (FuncId×Sg):=(115,⟨[(true,T4),(false,(.int .i64))],[(false,.bool)],Bj⟩)::Zk
theorem Zn:TabOK Tryz.prog (AB pu Zm):=AD Zl jy
def iK:List (Nat×Nat×Nat×An):=[(231,6,9,.loop { keep:=[0,7,11,9,8,12,10],kb:=[],pl:=[.slot 3 false (.int .i64),.slot 2 false (.int .i64),.slot 4 false (.int .i64)],ex:=[(.ret,[]),(.exit 0,[])],pay:=.unit })]
theorem jz (x:AE [(false,(.sl false (.sl true T2)))]):Ab Tryz.prog (AB pu Zm) (AI iK) 3000 60 231 [(false,(.sl false (.sl true T2)))] [(false,(.int .i64)),(false,(.int .i64))] x=DD x:=by kernel_rfl
def Zo:List (FuncId×Sg):=(231,⟨[(false,(.sl false (.sl true T2)))],[(false,(.int .i64)),(false,(.int .i64))],DD⟩)::Zm
theorem Zp:TabOK Tryz.prog (AB pu Zo):=AD Zn jz
def iL:List (Nat×Nat×Nat×An):=[(269,6,8,.loop { keep:=[0,7,5,9,4,8,6],kb:=[],pl:=[.slot 3 false (.int .i64),.slot 2 false (.int .i64)],ex:=[(.ret,[]),(.exit 0,[])],pay:=.unit })]
theorem j0 (x:AE [(false,(.sl true T5))]):Ab Tryz.prog (AB pu Zo) (AI iL) 3000 60 269 [(false,(.sl true T5))] [(false,(.int .i64))] x=E3 x:=by kernel_rfl
def Zq:List (FuncId×Sg):=(269,⟨[(false,(.sl true T5))],[(false,(.int .i64))],E3⟩)::Zo
theorem Zr:TabOK Tryz.prog (AB pu Zq):=AD Zp j0
theorem j7 (x:AE [(false,(.sl true T5)),(false,(.int .i64)),(false,(.int .i64))]):Ab Tryz.prog (AB pu Zq) (AI []) 3000 60 287 [(false,(.sl true T5)),(false,(.int .i64)),(false,(.int .i64))] [(false,.bool)] x=Ek x:=by kernel_rfl
def Zs:List (FuncId×Sg):=(287,⟨[(false,(.sl true T5)),(false,(.int .i64)),(false,(.int .i64))],[(false,.bool)],Ek⟩)::Zq
theorem Zt:TabOK Tryz.prog (AB pu Zs):=AD Zr j7
theorem j8 (r:AE [(false,(.sl true T5)),(false,(.int .i64))]->Option (AE [(false,(.int .i64)),(false,(.int .i64))])) (x:AE [(false,(.sl true T5)),(false,(.int .i64))]):Ab Tryz.prog (AB pu ((281,⟨[(false,(.sl true T5)),(false,(.int .i64))],[(false,(.int .i64)),(false,(.int .i64))],r⟩)::Zs)) (AI []) 3000 60 281 [(false,(.sl true T5)),(false,(.int .i64))] [(false,(.int .i64)),(false,(.int .i64))] x=Ao r x:=by kernel_rfl
def Zu:List (FuncId×Sg):=(281,⟨[(false,(.sl true T5)),(false,(.int .i64))],[(false,(.int .i64)),(false,(.int .i64))],JV (α:=AE [(false,(.sl true T5)),(false,(.int .i64))]) (β:=AE [(false,(.int .i64)),(false,(.int .i64))]) Ao 100⟩)::Zs
theorem Zv:TabOK Tryz.prog (AB pu Zu):=eN Zt j8 (by rfl) (by rfl) 100
def iM:List (Nat×Nat×Nat×An):=[(270,3,11,.loop { keep:=[0,3,5,9,2,8,6],kb:=[0],pl:=[.slot 4 false (.int .i64),.box 8 [.ow true T5 false,.ow false (.int .i64) true,.lf (.int .i64)]],ex:=[(.exit 0,[])],pay:=.unit })]
theorem j9 (x:AE [(false,(.sl true T5))]):Ab Tryz.prog (AB pu Zu) (AI iM) 3000 60 270 [(false,(.sl true T5))] [(true,T7)] x=Fs x:=by kernel_rfl
def Zw:List (FuncId×Sg):=(270,⟨[(false,(.sl true T5))],[(true,T7)],Fs⟩)::Zu
theorem Zx:TabOK Tryz.prog (AB pu Zw):=AD Zv j9
end Go.Proofs.YthpkjfabdccpdaaGreat.Pt
