/- The evaluator comes to each of the plain functions. No condition. -/
import Derived.Test.YthpkjfabdccpdaaGreatPt2
set_option linter.all false
namespace Go.Proofs.YthpkjfabdccpdaaGreat.Pt
open Go Go.Proofs.YthpkjfabdccpdaaGreat.Sv Go.Proofs.YthpkjfabdccpdaaGreat.Pl
set_option maxRecDepth 1000000
set_option linter.unusedVariables false
theorem mZ (x:AG [zI]):Ac Tryz.prog (AC pu bU) (AI []) 3000 60 276 [zI] [(false,.bool)] x=EA x:=by kernel_rfl
def bW:List (FuncId×Sg):=(276,⟨[zI],[(false,.bool)],EA⟩)::bU
theorem bX:TabOK Tryz.prog (AC pu bW):=AF bV mZ
theorem ma (x:AG [zI,zI]):Ac Tryz.prog (AC pu bW) (AI []) 3000 60 260 [zI,zI] [zI] x=CC x:=by kernel_rfl
def bY:List (FuncId×Sg):=(260,⟨[zI,zI],[zI],CC⟩)::bW
theorem bZ:TabOK Tryz.prog (AC pu bY):=AF bX ma
def j7:List (Nat×Nat×Nat×An):=[(258,3,5,.loop { keep:=[0,3,7,6],kb:=[],pl:=[.slot 2 false zJ,.slot 8 false zJ],ex:=[(.ret,[]),(.exit 0,[])],pay:=.unit })]
theorem mb (x:AG [(false,(.sl false zJ))]):Ac Tryz.prog (AC pu bY) (AI j7) 3000 60 258 [(false,(.sl false zJ))] [zI] x=Fy x:=by kernel_rfl
def ba:List (FuncId×Sg):=(258,⟨[(false,(.sl false zJ))],[zI],Fy⟩)::bY
theorem bc:TabOK Tryz.prog (AC pu ba):=AF bZ mb
def j8:List (Nat×Nat×Nat×An):=[(240,7,24,.loop { keep:=[0,1,15,31,23,19,27,5,17,25,13,29,4,16,24,12,28,18,26,14,22,30],kb:=[0],pl:=[.slot 3 false zJ,.slot 2 false zJ,.slot 32 false zJ],ex:=[(.ret,[]),(.exit 0,[])],pay:=.unit }),(240,18,49,.loop { keep:=[0,1,15,31,63,23,71,55,19,67,51,27,59,5,9,17,65,25,57,13,69,53,29,61,4,8,16,32,64,24,56,12,68,52,28,60,18,66,26,58,14,22,70,54,30,62],kb:=[0],pl:=[.slot 3 false zJ,.slot 2 false zJ,.slot 72 false zJ],ex:=[(.ret,[]),(.exit 2,[])],pay:=.unit })]
theorem mc (x:AG [(true,T9)]):Ac Tryz.prog (AC pu ba) (AI j8) 3000 60 240 [(true,T9)] [zI,zI] x=DS x:=by kernel_rfl
def bf:List (FuncId×Sg):=(240,⟨[(true,T9)],[zI,zI],DS⟩)::ba
theorem bg:TabOK Tryz.prog (AC pu bf):=AF bc mc
theorem md:Mq Tryz.prog (λf => !pu f) 1000 100 278=true:=by kernel_rfl
theorem me (a:Ty.den zJ) (l:List (Ty.den zJ)):Ac Tryz.prog (AC pu bf) (AI []) 3000 60 278 [(false,(.sl false zJ))] [(false,(.sl false zJ))] (a::l)=Aw (a::l):=by kernel_rfl
def bh:List (FuncId×Sg):=(278,⟨[(false,(.sl false zJ))],[(false,(.sl false zJ))],Aw⟩)::bf
theorem bj:TabOK Tryz.prog (AC pu bh):=OZ (gg:=false) (c:=zJ) bg md rfl me
theorem mf:Oa Tryz.prog (λf => !pu f) 1000 100 278=true:=by kernel_rfl
theorem mg (a:Ty.den zJ) (l:List (Ty.den zJ)):Pn Tryz.prog (AC pu bh) (AI []) 3000 60 278 [(false,(.sl false zJ))] false zJ (a::l)=Aw (a::l):=by kernel_rfl
def bm:List (FuncId×Sg):=(278+G2,⟨[(false,(.sl false zJ))],[(false,(.sl false zJ))],Aw⟩)::bh
theorem bn:TabOK Tryz.prog (AC pu bm):=Ob (gg:=false) (c:=zJ) bj mf rfl (λa l y h=>Oc h) mg
theorem mh (x:AG [zI,zI,(true,lV)]):Vo Tryz.prog (AC pu bm) (AI []) 3000 60 290 [zI,zI,(true,lV)] [(false,.bool)] x=BX x:=by kernel_rfl
def bo:List (FuncId×Sg):=(3146018,⟨[zI,zI,(true,lV)],[(false,.bool)],BX⟩)::bm
theorem bp:TabOK Tryz.prog (AC pu bo):=fj (f:=290) bn mh
def j9:List (Nat×Nat×Nat×An):=[(279,13,63,.loop { keep:=[0,1,3,7,31,63,47,55,11,19,35,51,27,43,59,9,17,33,49,25,41,57,13,21,37,53,29,45,61,2,4,8,32,48,24,40,56,12,20,36,52,28,44,60,6,18,34,50,26,42,58,14,38,54,30,46,62],kb:=[0,1,33,52],pl:=[.slot 5 false zJ,.slot 10 false zJ,.box 2 [.kp 33,.ow false zJ false,.lf zJ]],ex:=[(.exit 0,[])],pay:=.unit })]
theorem mi (x:AG [(true,T7),(true,T5)]):Ac Tryz.prog (AC pu bo) (AI j9) 3000 60 279 [(true,T7),(true,T5)] [(true,T7),zI,zI] x=CH x:=by kernel_rfl
def bq:List (FuncId×Sg):=(279,⟨[(true,T7),(true,T5)],[(true,T7),zI,zI],CH⟩)::bo
theorem bu:TabOK Tryz.prog (AC pu bq):=AF bp mi
def kA:List (Nat×Nat×Nat×An):=[(277,0,45,.loop { keep:=[0,1],kb:=[39,35,43,9,13,44],pl:=[.box 0 [.ow true T2 false],.box 1 [.ow false zJ false]],ex:=[(.ret,[(44,0,none)])],pay:=.unit }),(256,3,47,.loop { keep:=[0,1,11,13,4,12,10,14],kb:=[0,1,39,27,13,30],pl:=[.slot 15 false zJ,.srow 5 true T5 true],ex:=[(.exit 0,[])],pay:=.unit }),(277,0,72,.loop { keep:=[0,1],kb:=[47,39,71,9,13,53,66,70,30],pl:=[.box 0 [.ow true T2 false],.box 1 [.ow false zJ false],.box 62 [.kp 30,.ow false zJ true,.lf (.sl true T5),.lf (.sl false zJ),.lf zJ]],ex:=[(.ret,[(71,0,none)])],pay:=.unit })]
theorem mj (x:AG [(false,(.sl false (.sl true T2)))]):Ac Tryz.prog (AC pu bq) (AI kA) 3000 60 241 [(false,(.sl false (.sl true T2)))] [(false,(.sl true T2)),(false,(.sl false zJ)),zI] x=Gq x:=by kernel_rfl
def bw:List (FuncId×Sg):=(241,⟨[(false,(.sl false (.sl true T2)))],[(false,(.sl true T2)),(false,(.sl false zJ)),zI],Gq⟩)::bq
theorem bx:TabOK Tryz.prog (AC pu bw):=AF bu mj
theorem mq (x:AG [(true,O0)]):Ac Tryz.prog (AC pu bw) (AI []) 3000 60 280 [(true,O0)] [zI] x=Dl x:=by kernel_rfl
def bz:List (FuncId×Sg):=(280,⟨[(true,O0)],[zI],Dl⟩)::bw
theorem cA:TabOK Tryz.prog (AC pu bz):=AF bx mq
theorem mr (x:AG [(true,T2)]):Ac Tryz.prog (AC pu bz) (AI []) 3000 60 307 [(true,T2)] [(true,T2)] x=A4 x:=by kernel_rfl
def cB:List (FuncId×Sg):=(307,⟨[(true,T2)],[(true,T2)],A4⟩)::bz
theorem cC:TabOK Tryz.prog (AC pu cB):=AF cA mr
def kB:List (Nat×Nat×Nat×An):=[(262,5,24,.loop { keep:=[0,1,15,19,17,2,8,16,20,18,14],kb:=[],pl:=[.slot 7 false zJ,.slot 21 false zJ,.slot 6 false zJ,.box 19 [.lf .bool,.lf .str,.lf .bool],.box 0 [.ow true T2 false]],ex:=[(.ret,[]),(.exit 0,[])],pay:=.unit })]
theorem mt (x:AG [(false,(.sl true T2)),(false,.bool)]):Ac Tryz.prog (AC pu cB) (AI kB) 3000 60 242 [(false,(.sl true T2)),(false,.bool)] [(false,(.sl true T2)),zI,zI] x=EB x:=by kernel_rfl
def cD:List (FuncId×Sg):=(242,⟨[(false,(.sl true T2)),(false,.bool)],[(false,(.sl true T2)),zI,zI],EB⟩)::cB
theorem cE:TabOK Tryz.prog (AC pu cD):=AF cC mt
def kC:List (Nat×Nat×Nat×An):=[(244,4,9,.loop { keep:=[0,1,7,11,9,13,8,12,10],kb:=[],pl:=[.slot 4 false .bool,.slot 14 false zJ],ex:=[(.ret,[]),(.exit 0,[])],pay:=.unit })]
theorem mu (x:AG [(false,(.sl true T2)),(false,(.sl true T2))]):Ac Tryz.prog (AC pu cD) (AI kC) 3000 60 244 [(false,(.sl true T2)),(false,(.sl true T2))] [(false,.bool)] x=Dm x:=by kernel_rfl
def cF:List (FuncId×Sg):=(244,⟨[(false,(.sl true T2)),(false,(.sl true T2))],[(false,.bool)],Dm⟩)::cD
theorem cG:TabOK Tryz.prog (AC pu cF):=AF cE mu
def kD:List (Nat×Nat×Nat×An):=[(214,6,18,.loop { keep:=[0,1,3,15,23,19,17,25,21,2,4,16,24,20,18,26,14],kb:=[0],pl:=[.slot 27 false zJ,.slot 5 false zJ],ex:=[(.exit 0,[])],pay:=.unit })]
theorem mv (x:AG [(true,H5)]):Ac Tryz.prog (AC pu cF) (AI kD) 3000 60 214 [(true,H5)] [zI] x=Ef x:=by kernel_rfl
def cI:List (FuncId×Sg):=(214,⟨[(true,H5)],[zI],Ef⟩)::cF
theorem cJ:TabOK Tryz.prog (AC pu cI):=AF cG mv
end Go.Proofs.YthpkjfabdccpdaaGreat.Pt
