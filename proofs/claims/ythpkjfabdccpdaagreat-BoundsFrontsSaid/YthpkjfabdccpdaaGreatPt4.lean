/- The evaluator comes to each of the plain functions. No condition. -/
import Derived.Test.YthpkjfabdccpdaaGreatPt3
set_option linter.all false
namespace Go.Proofs.YthpkjfabdccpdaaGreat.Pt
open Go Go.Proofs.YthpkjfabdccpdaaGreat.Sv Go.Proofs.YthpkjfabdccpdaaGreat.Pl
set_option maxRecDepth 1000000
set_option linter.unusedVariables false
def iW:List (Nat×Nat×Nat×An):=[(256,3,47,.loop { keep:=[0,1,11,13,4,12,10,14],kb:=[0,39,27,13,30],pl:=[.slot 15 false (.int .i64),.srow 5 true T5 true],ex:=[(.exit 0,[])],pay:=.unit })]
theorem kl (x:AE [(false,(.sl false (.sl true T2))),(false,.bool)]):Ab Tryz.prog (AB pu ax) (AI iW) 3000 60 220 [(false,(.sl false (.sl true T2))),(false,.bool)] [(true,Ht),(false,(.int .i64)),(false,(.int .i64))] x=EN x:=by kernel_rfl
def az:List (FuncId×Sg):=(220,⟨[(false,(.sl false (.sl true T2))),(false,.bool)],[(true,Ht),(false,(.int .i64)),(false,(.int .i64))],EN⟩)::ax
theorem bA:TabOK Tryz.prog (AB pu az):=AD ay kl
theorem km (x:AE [(true,T4),(false,(.int .i64)),(false,.bool)]):Ab Tryz.prog (AB pu az) (AI []) 3000 60 182 [(true,T4),(false,(.int .i64)),(false,.bool)] [(true,gf)] x=CZ x:=by kernel_rfl
def bB:List (FuncId×Sg):=(182,⟨[(true,T4),(false,(.int .i64)),(false,.bool)],[(true,gf)],CZ⟩)::az
theorem bC:TabOK Tryz.prog (AB pu bB):=AD bA km
def iX:List (Nat×Nat×Nat×An):=[(256,3,8,.loop { keep:=[0,1,11,13,4,10,14],kb:=[0],pl:=[.slot 15 false (.int .i64),.srow 5 true T5 true],ex:=[(.exit 0,[])],pay:=.unit })]
theorem kn (x:AE [(false,(.sl false (.sl true T2))),(false,(.sl false (.int .i64)))]):Ab Tryz.prog (AB pu bB) (AI iX) 3000 60 256 [(false,(.sl false (.sl true T2))),(false,(.sl false (.int .i64)))] [(true,T7)] x=Fj x:=by kernel_rfl
def bD:List (FuncId×Sg):=(1048832,⟨[(false,(.sl false (.sl true T2))),(false,(.sl false (.int .i64)))],[(true,T7)],Fj⟩)::bB
theorem bE:TabOK Tryz.prog (AB pu bD):=AD bC kn
def iY:List (Nat×Nat×Nat×An):=[(224,4,9,.loop { keep:=[0,1,7,11,9,8,12,6,10],kb:=[],pl:=[.slot 13 false (.int .i64),.slot 4 false .bool],ex:=[(.ret,[]),(.exit 0,[])],pay:=.unit })]
theorem ko (x:AE [(false,(.sl true T5)),(false,(.sl true T5))]):Ab Tryz.prog (AB pu bD) (AI iY) 3000 60 224 [(false,(.sl true T5)),(false,(.sl true T5))] [(false,.bool)] x=Ai x:=by kernel_rfl
def bF:List (FuncId×Sg):=(224,⟨[(false,(.sl true T5)),(false,(.sl true T5))],[(false,.bool)],Ai⟩)::bD
theorem bG:TabOK Tryz.prog (AB pu bF):=AD bE ko
def iZ:List (Nat×Nat×Nat×An):=[(223,4,9,.loop { keep:=[0,1,7,11,9,8,12,6,10],kb:=[],pl:=[.slot 13 false (.int .i64),.slot 4 false .bool],ex:=[(.ret,[]),(.exit 0,[])],pay:=.unit })]
theorem kq (x:AE [(false,(.sl false (.int .i64))),(false,(.sl false (.int .i64)))]):Ab Tryz.prog (AB pu bF) (AI iZ) 3000 60 223 [(false,(.sl false (.int .i64))),(false,(.sl false (.int .i64)))] [(false,.bool)] x=Ac x:=by kernel_rfl
def bH:List (FuncId×Sg):=(223,⟨[(false,(.sl false (.int .i64))),(false,(.sl false (.int .i64)))],[(false,.bool)],Ac⟩)::bF
theorem bI:TabOK Tryz.prog (AB pu bH):=AD bG kq
theorem kr (x:AE [(true,T7),(true,T7)]):Ab Tryz.prog (AB pu bH) (AI []) 3000 60 255 [(true,T7),(true,T7)] [(false,.bool)] x=D3 x:=by kernel_rfl
def bJ:List (FuncId×Sg):=(255,⟨[(true,T7),(true,T7)],[(false,.bool)],D3⟩)::bH
theorem bK:TabOK Tryz.prog (AB pu bJ):=AD bI kr
def ib:List (Nat×Nat×Nat×An):=[(284,8,25,.loop { keep:=[0,1,15,23,11,19,5,9,17,25,21,4,8,16,24,12,20,10,18,26,14,22],kb:=[0,19],pl:=[.slot 3 false (.int .i64),.slot 27 false (.int .i64),.slot 2 false (.int .i64)],ex:=[(.ret,[]),(.exit 0,[])],pay:=.unit })]
theorem ku (x:AE [(true,T7)]):Ab Tryz.prog (AB pu bJ) (AI ib) 3000 60 284 [(true,T7)] [(false,(.int .i64)),(false,(.int .i64))] x=E1 x:=by kernel_rfl
def bL:List (FuncId×Sg):=(284,⟨[(true,T7)],[(false,(.int .i64)),(false,(.int .i64))],E1⟩)::bJ
theorem bM:TabOK Tryz.prog (AB pu bL):=AD bK ku
theorem kw (x:AE [(true,T7)]):Ab Tryz.prog (AB pu bL) (AI []) 3000 60 274 [(true,T7)] [(false,(.int .i64))] x=Ei x:=by kernel_rfl
def bN:List (FuncId×Sg):=(274,⟨[(true,T7)],[(false,(.int .i64))],Ei⟩)::bL
theorem bO:TabOK Tryz.prog (AB pu bN):=AD bM kw
theorem ky (x:AE [(true,T7)]):Ab Tryz.prog (AB pu bN) (AI []) 3000 60 257 [(true,T7)] [(false,(.int .i64)),(false,.str),(false,(.int .i64))] x=CK x:=by kernel_rfl
def bQ:List (FuncId×Sg):=(257,⟨[(true,T7)],[(false,(.int .i64)),(false,.str),(false,(.int .i64))],CK⟩)::bN
theorem bR:TabOK Tryz.prog (AB pu bQ):=AD bO ky
theorem kz (x:AE [(false,.str)]):Ab Tryz.prog (AB pu bQ) (AI []) 3000 60 275 [(false,.str)] [(false,.bool)] x=Cm x:=by kernel_rfl
def bS:List (FuncId×Sg):=(275,⟨[(false,.str)],[(false,.bool)],Cm⟩)::bQ
theorem bT:TabOK Tryz.prog (AB pu bS):=AD bR kz
theorem lA (x:AE [(false,.str),(false,.str)]):Ab Tryz.prog (AB pu bS) (AI []) 3000 60 259 [(false,.str),(false,.str)] [(false,(.int .i64))] x=CL x:=by kernel_rfl
def bU:List (FuncId×Sg):=(259,⟨[(false,.str),(false,.str)],[(false,(.int .i64))],CL⟩)::bS
theorem bV:TabOK Tryz.prog (AB pu bU):=AD bT lA
theorem lB (x:AE [(false,(.int .i64))]):Ab Tryz.prog (AB pu bU) (AI []) 3000 60 276 [(false,(.int .i64))] [(false,.bool)] x=Dy x:=by kernel_rfl
def bW:List (FuncId×Sg):=(276,⟨[(false,(.int .i64))],[(false,.bool)],Dy⟩)::bU
theorem bX:TabOK Tryz.prog (AB pu bW):=AD bV lB
theorem lC (x:AE [(false,(.int .i64)),(false,(.int .i64))]):Ab Tryz.prog (AB pu bW) (AI []) 3000 60 260 [(false,(.int .i64)),(false,(.int .i64))] [(false,(.int .i64))] x=B3 x:=by kernel_rfl
def bY:List (FuncId×Sg):=(260,⟨[(false,(.int .i64)),(false,(.int .i64))],[(false,(.int .i64))],B3⟩)::bW
theorem bZ:TabOK Tryz.prog (AB pu bY):=AD bX lC
def ic:List (Nat×Nat×Nat×An):=[(258,3,5,.loop { keep:=[0,3,7,6],kb:=[],pl:=[.slot 2 false (.int .i64),.slot 8 false (.int .i64)],ex:=[(.ret,[]),(.exit 0,[])],pay:=.unit })]
theorem lD (x:AE [(false,(.sl false (.int .i64)))]):Ab Tryz.prog (AB pu bY) (AI ic) 3000 60 258 [(false,(.sl false (.int .i64)))] [(false,(.int .i64))] x=Fk x:=by kernel_rfl
def ba:List (FuncId×Sg):=(258,⟨[(false,(.sl false (.int .i64)))],[(false,(.int .i64))],Fk⟩)::bY
theorem bc:TabOK Tryz.prog (AB pu ba):=AD bZ lD
end Go.Proofs.YthpkjfabdccpdaaGreat.Pt
