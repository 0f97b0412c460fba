/- The evaluator comes to each of the plain functions. No condition. -/
import Derived.Test.YtggceepiljjadaaGreatPt2
set_option linter.all false
namespace Go.Proofs.YtggceepiljjadaaGreat.Pt
open Go Sv Pl
set_option maxRecDepth 1000000
def ry:Sg:=⟨[zI],[(false,.bool)],Wp⟩
theorem yG:tE mS [] 166 ry:=fun _=>by kernel_rfl
def mU:tL:=(166,ry)::mS
theorem mV:tO mU:=SR mT yG
def rf:Sg:=⟨[zI,zI],[zI],VB⟩
theorem xq:tE mU [] 149 rf:=fun _=>by kernel_rfl
def mW:tL:=(149,rf)::mU
theorem mX:tO mW:=SR mV xq
def t8:tA:=[(147,3,5,.loop { keep:=[0,3,7,6],kb:=[],pl:=[.slot 2 false zJ,.slot 8 false zJ],ex:=[(.ret,[]),(.exit 0,[])],pay:=.unit })]
def rZ:Sg:=⟨[(false,(.sl false zJ))],[zI],Xn⟩
theorem xj:tE mW t8 147 rZ:=fun _=>by kernel_rfl
def mY:tL:=(147,rZ)::mW
theorem mZ:tO mY:=SR mX xj
def tu:tA:=[(130,7,24,.loop { keep:=[0,1,15,31,23,19,27,5,17,25,13,29,4,16,24,12,28,18,26,14,22,30],kb:=[0],pl:=[.slot 3 false zJ,.slot 2 false zJ,.slot 32 false zJ],ex:=[(.ret,[]),(.exit 0,[])],pay:=.unit }),(130,18,49,.loop { keep:=[0,1,15,31,63,23,71,55,19,67,51,27,59,5,9,17,65,25,57,13,69,53,29,61,4,8,16,32,64,24,56,12,68,52,28,60,18,66,26,58,14,22,70,54,30,62],kb:=[0],pl:=[.slot 3 false zJ,.slot 2 false zJ,.slot 72 false zJ],ex:=[(.ret,[]),(.exit 2,[])],pay:=.unit })]
def rH:Sg:=⟨[(true,T9)],[zI,zI],WG⟩
theorem xR:tE mY tu 130 rH:=fun _=>by kernel_rfl
def ma:tL:=(130,rH)::mY
theorem mb:tO ma:=SR mZ xR
theorem yV:MB Tryz.prog (λf=> !pu f) 1000 100 168=true:=by kernel_rfl
theorem yH(a:Ty.den zJ)(l:List (Ty.den zJ)):OQ Tryz.prog (Ah pu ma) (RK []) 3000 60 168 [(false,(.sl false zJ))] [(false,(.sl false zJ))] (a::l)=Tz (a::l):=by kernel_rfl
def mc:tL:=(168,⟨[(false,(.sl false zJ))],[(false,(.sl false zJ))],Tz⟩)::ma
theorem md:tO mc:=SS (gg:=false) (c:=zJ) mb yV rfl yH
theorem yY:Ou Tryz.prog (λf=> !pu f) 1000 100 168=true:=by kernel_rfl
theorem yd(a:Ty.den zJ)(l:List (Ty.den zJ)):Py Tryz.prog (Ah pu mc) (RK []) 3000 60 168 [(false,(.sl false zJ))] false zJ (a::l)=Tz (a::l):=by kernel_rfl
def me:tL:=(168+Di,⟨[(false,(.sl false zJ))],[(false,(.sl false zJ))],Tz⟩)::mc
theorem mf:tO me:=SU (gg:=false) (c:=zJ) md yY rfl (λa l y h=>R6 h) yd
theorem yS(x:AR [zI,zI,(true,wB)]):Pw Tryz.prog (Ah pu me) (RK []) 3000 60 181 [zI,zI,(true,wB)] [(false,.bool)] x=UZ x:=by kernel_rfl
def mh:tL:=(3145909,⟨[zI,zI,(true,wB)],[(false,.bool)],UZ⟩)::me
theorem mi:tO mh:=Si (f:=181) mf yS
def uD:tA:=[(169,13,63,.loop { keep:=[0,1,3,7,31,63,47,55,11,19,35,51,27,43,59,9,17,33,49,25,41,57,13,21,37,53,29,61,2,4,8,32,24,40,56,12,20,36,52,28,44,60,6,18,34,50,26,42,58,14,38,54,30,46,62],kb:=[0,1,33,52],pl:=[.slot 5 false zJ,.slot 10 false zJ,.box 2 [.kp 33,.ow false zJ false,.lf zJ]],ex:=[(.exit 0,[])],pay:=.unit })]
def sB:Sg:=⟨[(true,T7),(true,T5)],[(true,T7),zI,zI],VF⟩
theorem yI:tE mh uD 169 sB:=fun _=>by kernel_rfl
def mj:tL:=(169,sB)::mh
theorem mo:tO mj:=SR mi yI
def tv:tA:=[(167,0,45,.loop { keep:=[0,1],kb:=[39,35,43,9,13,44],pl:=[.box 0 [.ow true T2 false],.box 1 [.ow false zJ false]],ex:=[(.ret,[(44,0,none)])],pay:=.unit }),(145,3,47,.loop { keep:=[0,1,11,13,4,10,14],kb:=[0,1,39,27,13,30],pl:=[.slot 15 false zJ,.srow 5 true T5 true],ex:=[(.exit 0,[])],pay:=.unit }),(167,0,72,.loop { keep:=[0,1],kb:=[47,39,71,9,13,53,66,70,30],pl:=[.box 0 [.ow true T2 false],.box 1 [.ow false zJ false],.box 62 [.kp 30,.ow false zJ true,.lf (.sl true T5),.lf (.sl false zJ),.lf zJ]],ex:=[(.ret,[(71,0,none)])],pay:=.unit })]
def rI:Sg:=⟨[(false,(.sl false (.sl true T2)))],[(false,(.sl true T2)),(false,(.sl false zJ)),zI],YI⟩
theorem xS:tE mj tv 131 rI:=fun _=>by kernel_rfl
def mq:tL:=(131,rI)::mj
theorem mr:tO mq:=SR mo xS
def sC:Sg:=⟨[(true,pQ)],[zI],WU⟩
theorem yJ:tE mq [] 170 sC:=fun _=>by kernel_rfl
def mu:tL:=(170,sC)::mq
theorem mv:tO mu:=SR mr yJ
def sK:Sg:=⟨[(true,T2)],[(true,T2)],UP⟩
theorem yT:tE mu [] 198 sK:=fun _=>by kernel_rfl
def mw:tL:=(198,sK)::mu
theorem my:tO mw:=SR mv yT
def tx:tA:=[(151,5,24,.loop { keep:=[0,1,15,19,17,2,8,16,20,18,14],kb:=[],pl:=[.slot 7 false zJ,.slot 21 false zJ,.slot 6 false zJ,.box 19 [.lf .bool,.lf .str,.lf .bool],.box 0 [.ow true T2 false]],ex:=[(.ret,[]),(.exit 0,[])],pay:=.unit })]
def rJ:Sg:=⟨[(false,(.sl true T2)),(false,.bool)],[(false,(.sl true T2)),zI,zI],Wt⟩
theorem xT:tE mw tx 132 rJ:=fun _=>by kernel_rfl
def mz:tL:=(132,rJ)::mw
theorem m6:tO mz:=SR my xT
def tz:tA:=[(134,4,9,.loop { keep:=[0,1,7,11,9,13,8,12,10],kb:=[],pl:=[.slot 4 false .bool,.slot 14 false zJ],ex:=[(.ret,[]),(.exit 0,[])],pay:=.unit })]
def rL:Sg:=⟨[(false,(.sl true T2)),(false,(.sl true T2))],[(false,.bool)],WV⟩
theorem xV:tE mz tz 134 rL:=fun _=>by kernel_rfl
def m7:tL:=(134,rL)::mz
theorem m8:tO m7:=SR m6 xV
def wy:tA:=[(99,6,18,.loop { keep:=[0,1,3,15,23,19,17,25,21,2,4,16,24,20,18,26,14],kb:=[0],pl:=[.slot 27 false zJ,.slot 5 false zJ],ex:=[(.exit 0,[])],pay:=.unit })]
def v9:Sg:=⟨[(true,d9)],[zI],XJ⟩
theorem e99:tE m7 wy 99 v9:=fun _=>by kernel_rfl
def m9:tL:=(99,v9)::m7
theorem nA:tO m9:=SR m8 e99
end Go.Proofs.YtggceepiljjadaaGreat.Pt
