/- The evaluator comes to each of the plain functions. No condition. -/
import Derived.Test.YthpkjfabdccpdaaGreatPt4
set_option linter.all false
namespace Go.Proofs.YthpkjfabdccpdaaGreat.Pt
open Go Go.Proofs.YthpkjfabdccpdaaGreat.Sv Go.Proofs.YthpkjfabdccpdaaGreat.Pl
set_option maxRecDepth 1000000
set_option linter.unusedVariables false
theorem kg (x:AF [(false,(.int .i64)),(false,(.int .i64)),(true,jF)]):VI Tryz.prog (AC pu bF) (AK []) 3000 60 290 [(false,(.int .i64)),(false,(.int .i64)),(true,jF)] [(false,.bool)] x=BU x:=by kernel_rfl
def bH:List (FuncId×Sg):=(3146018,⟨[(false,(.int .i64)),(false,(.int .i64)),(true,jF)],[(false,.bool)],BU⟩)::bF
theorem bI:TabOK Tryz.prog (AC pu bH):=dw (f:=290) bG kg
def iS:List (Nat×Nat×Nat×An):=[(279,13,63,.loop { keep:=[0,1,3,7,31,63,47,55,11,19,35,51,27,43,59,9,17,33,49,25,41,57,13,21,37,53,29,45,61,2,4,8,32,48,24,40,56,12,20,36,52,28,44,60,6,18,34,50,26,42,58,14,38,54,30,46,62],kb:=[0,1,33,52],pl:=[.slot 5 false (.int .i64),.slot 10 false (.int .i64),.box 2 [.kp 33,.ow false (.int .i64) false,.lf (.int .i64)]],ex:=[(.exit 0,[])],pay:=.unit })]
theorem kh (x:AF [(true,T7),(true,T5)]):Aj Tryz.prog (AC pu bH) (AK iS) 3000 60 279 [(true,T7),(true,T5)] [(true,T7),(false,(.int .i64)),(false,(.int .i64))] x=CB x:=by kernel_rfl
def bJ:List (FuncId×Sg):=(279,⟨[(true,T7),(true,T5)],[(true,T7),(false,(.int .i64)),(false,(.int .i64))],CB⟩)::bH
theorem bK:TabOK Tryz.prog (AC pu bJ):=AG bI kh
def iT:List (Nat×Nat×Nat×An):=[(277,0,45,.loop { keep:=[0,1],kb:=[39,35,43,9,13,44],pl:=[.box 0 [.ow true T2 false],.box 1 [.ow false (.int .i64) false]],ex:=[(.ret,[(44,0,none)])],pay:=.unit }),(256,3,47,.loop { keep:=[0,1,11,13,4,12,10,14],kb:=[0,1,39,27,13,30],pl:=[.slot 15 false (.int .i64),.srow 5 true T5 true],ex:=[(.exit 0,[])],pay:=.unit }),(277,0,72,.loop { keep:=[0,1],kb:=[47,39,71,9,13,53,66,70,30],pl:=[.box 0 [.ow true T2 false],.box 1 [.ow false (.int .i64) false],.box 62 [.kp 30,.ow false (.int .i64) true,.lf (.sl true T5),.lf (.sl false (.int .i64)),.lf (.int .i64)]],ex:=[(.ret,[(71,0,none)])],pay:=.unit })]
theorem ki (x:AF [(false,(.sl false (.sl true T2)))]):Aj Tryz.prog (AC pu bJ) (AK iT) 3000 60 241 [(false,(.sl false (.sl true T2)))] [(false,(.sl true T2)),(false,(.sl false (.int .i64))),(false,(.int .i64))] x=GZ x:=by kernel_rfl
def bL:List (FuncId×Sg):=(241,⟨[(false,(.sl false (.sl true T2)))],[(false,(.sl true T2)),(false,(.sl false (.int .i64))),(false,(.int .i64))],GZ⟩)::bJ
theorem bM:TabOK Tryz.prog (AC pu bL):=AG bK ki
theorem kj (x:AF [(true,W0)]):Aj Tryz.prog (AC pu bL) (AK []) 3000 60 280 [(true,W0)] [(false,(.int .i64))] x=Dh x:=by kernel_rfl
def bN:List (FuncId×Sg):=(280,⟨[(true,W0)],[(false,(.int .i64))],Dh⟩)::bL
theorem bO:TabOK Tryz.prog (AC pu bN):=AG bM kj
theorem kl (x:AF [(true,T2)]):Aj Tryz.prog (AC pu bN) (AK []) 3000 60 307 [(true,T2)] [(true,T2)] x=A1 x:=by kernel_rfl
def bQ:List (FuncId×Sg):=(307,⟨[(true,T2)],[(true,T2)],A1⟩)::bN
theorem bR:TabOK Tryz.prog (AC pu bQ):=AG bO kl
def iU:List (Nat×Nat×Nat×An):=[(262,5,24,.loop { keep:=[0,1,15,19,17,2,8,16,20,18,14],kb:=[],pl:=[.slot 7 false (.int .i64),.slot 21 false (.int .i64),.slot 6 false (.int .i64),.box 19 [.lf .bool,.lf .str,.lf .bool],.box 0 [.ow true T2 false]],ex:=[(.ret,[]),(.exit 0,[])],pay:=.unit })]
theorem km (x:AF [(false,(.sl true T2)),(false,.bool)]):Aj Tryz.prog (AC pu bQ) (AK iU) 3000 60 242 [(false,(.sl true T2)),(false,.bool)] [(false,(.sl true T2)),(false,(.int .i64)),(false,(.int .i64))] x=D3 x:=by kernel_rfl
def bS:List (FuncId×Sg):=(242,⟨[(false,(.sl true T2)),(false,.bool)],[(false,(.sl true T2)),(false,(.int .i64)),(false,(.int .i64))],D3⟩)::bQ
theorem bT:TabOK Tryz.prog (AC pu bS):=AG bR km
def iV:List (Nat×Nat×Nat×An):=[(244,4,9,.loop { keep:=[0,1,7,11,9,13,8,12,10],kb:=[],pl:=[.slot 4 false .bool,.slot 14 false (.int .i64)],ex:=[(.ret,[]),(.exit 0,[])],pay:=.unit })]
theorem kn (x:AF [(false,(.sl true T2)),(false,(.sl true T2))]):Aj Tryz.prog (AC pu bS) (AK iV) 3000 60 244 [(false,(.sl true T2)),(false,(.sl true T2))] [(false,.bool)] x=Di x:=by kernel_rfl
def bU:List (FuncId×Sg):=(244,⟨[(false,(.sl true T2)),(false,(.sl true T2))],[(false,.bool)],Di⟩)::bS
theorem bV:TabOK Tryz.prog (AC pu bU):=AG bT kn
def iW:List (Nat×Nat×Nat×An):=[(214,6,18,.loop { keep:=[0,1,3,15,23,19,17,25,21,2,4,16,24,20,18,26,14],kb:=[0],pl:=[.slot 27 false (.int .i64),.slot 5 false (.int .i64)],ex:=[(.exit 0,[])],pay:=.unit })]
theorem ko (x:AF [(true,Oy)]):Aj Tryz.prog (AC pu bU) (AK iW) 3000 60 214 [(true,Oy)] [(false,(.int .i64))] x=ES x:=by kernel_rfl
def bW:List (FuncId×Sg):=(214,⟨[(true,Oy)],[(false,(.int .i64))],ES⟩)::bU
theorem bX:TabOK Tryz.prog (AC pu bW):=AG bV ko
def iX:List (Nat×Nat×Nat×An):=[(215,6,17,.loop { keep:=[0,1,3,15,11,19,5,9,17,13,2,4,12,10,18,14],kb:=[0],pl:=[.slot 20 false (.int .i64),.slot 6 false (.int .i64)],ex:=[(.exit 0,[])],pay:=.unit })]
theorem kq (x:AF [(true,T9)]):Aj Tryz.prog (AC pu bW) (AK iX) 3000 60 215 [(true,T9)] [(false,(.int .i64)),(false,(.int .i64))] x=Fi x:=by kernel_rfl
def bY:List (FuncId×Sg):=(215,⟨[(true,T9)],[(false,(.int .i64)),(false,(.int .i64))],Fi⟩)::bW
theorem bZ:TabOK Tryz.prog (AC pu bY):=AG bX kq
theorem kr (x:AF [(true,Oy)]):Aj Tryz.prog (AC pu bY) (AK []) 3000 60 167 [(true,Oy)] [(false,(.int .i64)),(false,(.int .i64))] x=BX x:=by kernel_rfl
def ba:List (FuncId×Sg):=(167,⟨[(true,Oy)],[(false,(.int .i64)),(false,(.int .i64))],BX⟩)::bY
theorem bc:TabOK Tryz.prog (AC pu ba):=AG bZ kr
theorem ks (x:AF [(true,T9)]):Aj Tryz.prog (AC pu ba) (AK []) 3000 60 245 [(true,T9)] [(true,T2),(false,(.int .i64)),(true,T9),(false,(.int .i64))] x=Bv x:=by kernel_rfl
def bf:List (FuncId×Sg):=(245,⟨[(true,T9)],[(true,T2),(false,(.int .i64)),(true,T9),(false,(.int .i64))],Bv⟩)::ba
theorem bg:TabOK Tryz.prog (AC pu bf):=AG bc ks
theorem ku (x:AF [(true,W0),(true,T2)]):Aj Tryz.prog (AC pu bf) (AK []) 3000 60 246 [(true,W0),(true,T2)] [(false,.bool),(true,W0),(false,(.int .i64))] x=B0 x:=by kernel_rfl
def bh:List (FuncId×Sg):=(246,⟨[(true,W0),(true,T2)],[(false,.bool),(true,W0),(false,(.int .i64))],B0⟩)::bf
theorem bj:TabOK Tryz.prog (AC pu bh):=AG bg ku
def iY:List (Nat×Nat×Nat×An):=[(216,2,81,.loop { keep:=[0,1,6],kb:=[0,1,39,67,68],pl:=[.slot 7 false (.int .i64),.slot 4 false (.int .i64),.box 28 [.lf (.sl false (.sl true T2)),.lf (.sl false (.int .i64)),.lf (.sl true T5),.lf (.sl false (.int .i64)),.lf (.int .i64),.lf .bool,.lf .str,.lf .bool,.ow true T2 false,.lf (.int .i64)]],ex:=[(.ret,[]),(.exit 0,[])],pay:=.unit }),(216,2,98,.loop { keep:=[0,1,6],kb:=[0,1,39,67,68,86],pl:=[.slot 7 false (.int .i64),.slot 4 false (.int .i64),.box 28 [.lf (.sl false (.sl true T2)),.lf (.sl false (.int .i64)),.lf (.sl true T5),.lf (.sl false (.int .i64)),.lf (.int .i64),.lf .bool,.lf .str,.lf .bool,.ow true T2 false,.lf (.int .i64)]],ex:=[(.ret,[]),(.exit 0,[])],pay:=.unit }),(216,2,133,.loop { keep:=[0,1,6],kb:=[0,1,39,67,68,86],pl:=[.slot 7 false (.int .i64),.slot 4 false (.int .i64),.box 28 [.lf (.sl false (.sl true T2)),.lf (.sl false (.int .i64)),.lf (.sl true T5),.lf (.sl false (.int .i64)),.lf (.int .i64),.lf .bool,.lf .str,.lf .bool,.ow true T2 false,.lf (.int .i64)]],ex:=[(.ret,[]),(.exit 0,[])],pay:=.unit }),(216,2,120,.loop { keep:=[0,1,6],kb:=[0,1,39,67,68,86],pl:=[.slot 7 false (.int .i64),.slot 4 false (.int .i64),.box 28 [.lf (.sl false (.sl true T2)),.lf (.sl false (.int .i64)),.lf (.sl true T5),.lf (.sl false (.int .i64)),.lf (.int .i64),.lf .bool,.lf .str,.lf .bool,.ow true T2 false,.lf (.int .i64)]],ex:=[(.ret,[]),(.exit 0,[])],pay:=.unit })]
theorem kw (x:AF [(true,Oy),(false,(.int .i64))]):Aj Tryz.prog (AC pu bh) (AK iY) 3000 60 175 [(true,Oy),(false,(.int .i64))] [(true,Oy),(false,(.int .i64)),(false,(.int .i64))] x=B3 x:=by kernel_rfl
def bm:List (FuncId×Sg):=(175,⟨[(true,Oy),(false,(.int .i64))],[(true,Oy),(false,(.int .i64)),(false,(.int .i64))],B3⟩)::bh
theorem bn:TabOK Tryz.prog (AC pu bm):=AG bj kw
def iZ:List (Nat×Nat×Nat×An):=[(248,4,9,.loop { keep:=[0,1,7,11,9,8,12,6,10],kb:=[],pl:=[.slot 13 false (.int .i64),.slot 4 false .bool],ex:=[(.ret,[]),(.exit 0,[])],pay:=.unit })]
theorem ky (x:AF [(false,(.sl true T2)),(false,(.sl true T2))]):Aj Tryz.prog (AC pu bm) (AK iZ) 3000 60 248 [(false,(.sl true T2)),(false,(.sl true T2))] [(false,.bool)] x=BK x:=by kernel_rfl
def bo:List (FuncId×Sg):=(248,⟨[(false,(.sl true T2)),(false,(.sl true T2))],[(false,.bool)],BK⟩)::bm
theorem bp:TabOK Tryz.prog (AC pu bo):=AG bn ky
end Go.Proofs.YthpkjfabdccpdaaGreat.Pt
