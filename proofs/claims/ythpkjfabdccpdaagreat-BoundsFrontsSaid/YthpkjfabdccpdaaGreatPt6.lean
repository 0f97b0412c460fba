/- The evaluator comes to each of the plain functions. No condition. -/
import Derived.Test.YthpkjfabdccpdaaGreatPt5
set_option linter.all false
namespace Go.Proofs.YthpkjfabdccpdaaGreat.Pt
open Go Go.Proofs.YthpkjfabdccpdaaGreat.Sv Go.Proofs.YthpkjfabdccpdaaGreat.Pl
set_option maxRecDepth 1000000
set_option linter.unusedVariables false
theorem lV (x:AE [(true,Og),(true,T2)]):Ab Tryz.prog (AB pu cO) (AI []) 3000 60 246 [(true,Og),(true,T2)] [(false,.bool),(true,Og),(false,(.int .i64))] x=Bw x:=by kernel_rfl
def cR:List (FuncId×Sg):=(246,⟨[(true,Og),(true,T2)],[(false,.bool),(true,Og),(false,(.int .i64))],Bw⟩)::cO
theorem cS:TabOK Tryz.prog (AB pu cR):=AD cQ lV
def io:List (Nat×Nat×Nat×An):=[(216,2,81,.loop { keep:=[0,1,6],kb:=[0,1,39,67,68],pl:=[.slot 7 false (.int .i64),.slot 4 false (.int .i64),.box 28 [.lf (.sl false (.sl true T2)),.lf (.sl false (.int .i64)),.lf (.sl true T5),.lf (.sl false (.int .i64)),.lf (.int .i64),.lf .bool,.lf .str,.lf .bool,.ow true T2 false,.lf (.int .i64)]],ex:=[(.ret,[]),(.exit 0,[])],pay:=.unit }),(216,2,98,.loop { keep:=[0,1,6],kb:=[0,1,39,67,68,86],pl:=[.slot 7 false (.int .i64),.slot 4 false (.int .i64),.box 28 [.lf (.sl false (.sl true T2)),.lf (.sl false (.int .i64)),.lf (.sl true T5),.lf (.sl false (.int .i64)),.lf (.int .i64),.lf .bool,.lf .str,.lf .bool,.ow true T2 false,.lf (.int .i64)]],ex:=[(.ret,[]),(.exit 0,[])],pay:=.unit }),(216,2,133,.loop { keep:=[0,1,6],kb:=[0,1,39,67,68,86],pl:=[.slot 7 false (.int .i64),.slot 4 false (.int .i64),.box 28 [.lf (.sl false (.sl true T2)),.lf (.sl false (.int .i64)),.lf (.sl true T5),.lf (.sl false (.int .i64)),.lf (.int .i64),.lf .bool,.lf .str,.lf .bool,.ow true T2 false,.lf (.int .i64)]],ex:=[(.ret,[]),(.exit 0,[])],pay:=.unit }),(216,2,120,.loop { keep:=[0,1,6],kb:=[0,1,39,67,68,86],pl:=[.slot 7 false (.int .i64),.slot 4 false (.int .i64),.box 28 [.lf (.sl false (.sl true T2)),.lf (.sl false (.int .i64)),.lf (.sl true T5),.lf (.sl false (.int .i64)),.lf (.int .i64),.lf .bool,.lf .str,.lf .bool,.ow true T2 false,.lf (.int .i64)]],ex:=[(.ret,[]),(.exit 0,[])],pay:=.unit })]
theorem lW (x:AE [(true,Ht),(false,(.int .i64))]):Ab Tryz.prog (AB pu cR) (AI io) 3000 60 175 [(true,Ht),(false,(.int .i64))] [(true,Ht),(false,(.int .i64)),(false,(.int .i64))] x=CG x:=by kernel_rfl
def cU:List (FuncId×Sg):=(175,⟨[(true,Ht),(false,(.int .i64))],[(true,Ht),(false,(.int .i64)),(false,(.int .i64))],CG⟩)::cR
theorem cV:TabOK Tryz.prog (AB pu cU):=AD cS lW
def ip:List (Nat×Nat×Nat×An):=[(248,4,9,.loop { keep:=[0,1,7,11,9,8,12,6,10],kb:=[],pl:=[.slot 13 false (.int .i64),.slot 4 false .bool],ex:=[(.ret,[]),(.exit 0,[])],pay:=.unit })]
theorem lX (x:AE [(false,(.sl true T2)),(false,(.sl true T2))]):Ab Tryz.prog (AB pu cU) (AI ip) 3000 60 248 [(false,(.sl true T2)),(false,(.sl true T2))] [(false,.bool)] x=BG x:=by kernel_rfl
def cW:List (FuncId×Sg):=(248,⟨[(false,(.sl true T2)),(false,(.sl true T2))],[(false,.bool)],BG⟩)::cU
theorem cX:TabOK Tryz.prog (AB pu cW):=AD cV lX
theorem lY (x:AE [(false,(.sl true T2)),(false,(.sl true T2))]):Ab Tryz.prog (AB pu cW) (AI []) 3000 60 222 [(false,(.sl true T2)),(false,(.sl true T2))] [(false,.bool)] x=BY x:=by kernel_rfl
def cY:List (FuncId×Sg):=(222,⟨[(false,(.sl true T2)),(false,(.sl true T2))],[(false,.bool)],BY⟩)::cW
theorem cZ:TabOK Tryz.prog (AB pu cY):=AD cX lY
def iq:List (Nat×Nat×Nat×An):=[(221,4,81,.loop { keep:=[0,1,15,11,13,2,16,12,10,14],kb:=[0,1,7,8],pl:=[.slot 17 false (.int .i64),.slot 6 false .bool],ex:=[(.ret,[]),(.exit 0,[])],pay:=.unit })]
theorem lZ (x:AE [(true,Ht),(true,Ht)]):Ab Tryz.prog (AB pu cY) (AI iq) 3000 60 183 [(true,Ht),(true,Ht)] [(false,.bool)] x=C1 x:=by kernel_rfl
def ca:List (FuncId×Sg):=(183,⟨[(true,Ht),(true,Ht)],[(false,.bool)],C1⟩)::cY
theorem cb:TabOK Tryz.prog (AB pu ca):=AD cZ lZ
def ir:List (Nat×Nat×Nat×An):=[(219,1,52,.loop { keep:=[0,1,7,5,6],kb:=[0,47,35,46],pl:=[.slot 8 false (.int .i64),.box 43 [.ow false (.int .i64) false]],ex:=[(.exit 0,[(47,0,none)])],pay:=.unit }),(107,10,59,.loop { keep:=[0,1,15,31,47,23,39,19,35,27,43,17,33,25,41,21,37,29,45,4,16,32,40,20,36,28,44,18,34,26,42,14,22,38,30,46],kb:=[0,47,35,43,52],pl:=[.slot 3 false (.int .i64),.slot 2 false (.int .i64),.slot 48 false (.int .i64)],ex:=[(.ret,[(47,3,none)]),(.exit 1,[(47,3,none)])],pay:=.unit })]
theorem ld (x:AE [(true,Hu)]):Ab Tryz.prog (AB pu ca) (AI ir) 3000 60 107 [(true,Hu)] [(false,(.int .i64)),(false,(.int .i64))] x=C2 x:=by kernel_rfl
def cc:List (FuncId×Sg):=(107,⟨[(true,Hu)],[(false,(.int .i64)),(false,(.int .i64))],C2⟩)::ca
theorem cd:TabOK Tryz.prog (AB pu cc):=AD cb ld
theorem m7 (x:AE [(true,Lz)]):Ab Tryz.prog (AB pu cc) (AI []) 3000 60 50 [(true,Lz)] [(false,(.int .i64))] x=Ci x:=by kernel_rfl
def cf:List (FuncId×Sg):=(50,⟨[(true,Lz)],[(false,(.int .i64))],Ci⟩)::cc
theorem cg:TabOK Tryz.prog (AB pu cf):=AD cd m7
def iu:List (Nat×Nat×Nat×An):=[(219,1,35,.loop { keep:=[0,1,7,5,6],kb:=[0,29,18,30],pl:=[.slot 8 false (.int .i64),.box 26 [.ow false (.int .i64) false]],ex:=[(.exit 0,[(30,0,none)])],pay:=.unit })]
theorem lg (x:AE [(true,Hu)]):Ab Tryz.prog (AB pu cf) (AI iu) 3000 60 105 [(true,Hu)] [(false,(.sl false (.int .i64))),(false,(.int .i64))] x=EX x:=by kernel_rfl
def cj:List (FuncId×Sg):=(105,⟨[(true,Hu)],[(false,(.sl false (.int .i64))),(false,(.int .i64))],EX⟩)::cf
theorem ck:TabOK Tryz.prog (AB pu cj):=AD cg lg
def iv:List (Nat×Nat×Nat×An):=[(238,2,31,.loop { keep:=[0,1,7,6],kb:=[0,1],pl:=[.slot 4 false (.int .i64),.slot 8 false (.int .i64)],ex:=[(.ret,[]),(.exit 0,[])],pay:=.unit })]
theorem lh (x:AE [(true,Hu),(false,(.int .i64))]):Ab Tryz.prog (AB pu cj) (AI iv) 3000 60 151 [(true,Hu),(false,(.int .i64))] [(false,(.int .i64)),(false,(.int .i64))] x=Ga x:=by kernel_rfl
def cm:List (FuncId×Sg):=(151,⟨[(true,Hu),(false,(.int .i64))],[(false,(.int .i64)),(false,(.int .i64))],Ga⟩)::cj
theorem cp:TabOK Tryz.prog (AB pu cm):=AD ck lh
theorem lj (x:AE [(true,Hu),(false,(.int .i64))]):Ab Tryz.prog (AB pu cm) (AI []) 3000 60 239 [(true,Hu),(false,(.int .i64))] [(false,(.int .i64)),(false,(.int .i64))] x=Gd x:=by kernel_rfl
def cq:List (FuncId×Sg):=(239,⟨[(true,Hu),(false,(.int .i64))],[(false,(.int .i64)),(false,(.int .i64))],Gd⟩)::cm
theorem cr:TabOK Tryz.prog (AB pu cq):=AD cp lj
theorem lm (x:AE [(true,Hu),(false,(.int .i64))]):Ab Tryz.prog (AB pu cq) (AI []) 3000 60 213 [(true,Hu),(false,(.int .i64))] [(false,(.int .i64)),(false,(.int .i64))] x=HJ x:=by kernel_rfl
def cu:List (FuncId×Sg):=(213,⟨[(true,Hu),(false,(.int .i64))],[(false,(.int .i64)),(false,(.int .i64))],HJ⟩)::cq
theorem cv:TabOK Tryz.prog (AB pu cu):=AD cr lm
def iw:List (Nat×Nat×Nat×An):=[(157,6,16,.loop { keep:=[0,1,15,11,19,5,17,13,4,16,12,20,14],kb:=[0],pl:=[.slot 3 false (.int .i64),.slot 21 false (.int .i64),.slot 2 false (.int .i64),.slot 6 false (.int .i64)],ex:=[(.ret,[]),(.exit 0,[])],pay:=.unit })]
theorem lq (x:AE [(true,Hu)]):Ab Tryz.prog (AB pu cu) (AI iw) 3000 60 157 [(true,Hu)] [(false,(.int .i64)),(false,(.int .i64))] x=GI x:=by kernel_rfl
def cw:List (FuncId×Sg):=(157,⟨[(true,Hu)],[(false,(.int .i64)),(false,(.int .i64))],GI⟩)::cu
theorem cx:TabOK Tryz.prog (AB pu cw):=AD cv lq
def lr:List (Nat×Nat×Nat×An):=[(199,1,27,.loop { keep:=[0,1,7,8,6],kb:=[0,17,21,22],pl:=[.slot 9 false (.int .i64),.box 1 [.lf (.int .i64)],.box 2 [.lf (.int .i64)]],ex:=[(.exit 0,[(22,0,none)])],pay:=.unit }),(199,4,37,.loop { keep:=[0,1,7,15,11,9,13,4,8,16,12,6,10,14],kb:=[0,17,21,22,30],pl:=[.slot 5 false (.int .i64),.box 1 [.lf (.int .i64)],.box 2 [.lf (.int .i64)]],ex:=[(.exit 2,[(22,0,none)])],pay:=.unit })]
theorem m8 (x:AE [(true,T4)]):Ab Tryz.prog (AB pu cw) (AI lr) 3000 60 41 [(true,T4)] [(false,(.int .i64)),(false,(.int .i64)),(false,(.int .i64))] x=Dd x:=by kernel_rfl
def cy:List (FuncId×Sg):=(41,⟨[(true,T4)],[(false,(.int .i64)),(false,(.int .i64)),(false,(.int .i64))],Dd⟩)::cw
theorem cz:TabOK Tryz.prog (AB pu cy):=AD cx m8
theorem m9 (x:AE [(true,jc)]):Ru Tryz.prog (AB pu cy) (AI []) 3000 60 77 [(true,jc)] [(false,(.int .i64))] x=BT x:=by kernel_rfl
def c0:List (FuncId×Sg):=(3145805,⟨[(true,jc)],[(false,(.int .i64))],BT⟩)::cy
theorem dA:TabOK Tryz.prog (AB pu c0):=VS (f:=77) cz m9
end Go.Proofs.YthpkjfabdccpdaaGreat.Pt
