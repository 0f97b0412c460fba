/- The evaluator comes to each of the plain functions. No condition. -/
import Derived.Test.YthpkjfabdccpdaaGreatPt1
set_option linter.all false
namespace Go.Proofs.YthpkjfabdccpdaaGreat.Pt
open Go Go.Proofs.YthpkjfabdccpdaaGreat.Sv Go.Proofs.YthpkjfabdccpdaaGreat.Pl
set_option maxRecDepth 1000000
set_option linter.unusedVariables false
theorem mJ:Oa Tryz.prog (λf => !pu f) 1000 100 285=true:=by kernel_rfl
theorem mK (a:Ty.den T5) (l:List (Ty.den T5)):Pn Tryz.prog (AC pu an) (AI []) 3000 60 285 [(false,(.sl true T5))] true T5 (a::l)=Aj (a::l):=by kernel_rfl
def ap:List (FuncId×Sg):=(285+G2,⟨[(false,(.sl true T5))],[(false,(.sl true T5))],Aj⟩)::an
theorem aq:TabOK Tryz.prog (AC pu ap):=Ob (gg:=true) (c:=T5) ao mJ rfl (λa l y h=>Oc h) mK
def jv:List (Nat×Nat×Nat×An):=[(283,6,26,.loop { keep:=[0,3,15,23,11,19,17,13,21,2,4,16,24,12,20,6,10,18,14,22],kb:=[0,7],pl:=[.slot 7 false zJ,.srow 5 false zJ true,.box 20 [.ow true T5 false,.ow false zJ true,.lf zJ]],ex:=[(.exit 0,[])],pay:=.unit })]
theorem mL (x:AG [(false,(.sl true T5))]):Ac Tryz.prog (AC pu ap) (AI jv) 3000 60 283 [(false,(.sl true T5))] [(true,T7)] x=Ey x:=by kernel_rfl
def au:List (FuncId×Sg):=(283,⟨[(false,(.sl true T5))],[(true,T7)],Ey⟩)::ap
theorem aw:TabOK Tryz.prog (AC pu au):=AF aq mL
theorem mM (x:AG [(false,(.sl true T5))]):Ac Tryz.prog (AC pu au) (AI []) 3000 60 273 [(false,(.sl true T5))] [(true,T7),zI] x=CU x:=by kernel_rfl
def ax:List (FuncId×Sg):=(273,⟨[(false,(.sl true T5))],[(true,T7),zI],CU⟩)::au
theorem ay:TabOK Tryz.prog (AC pu ax):=AF aw mM
def jw:List (Nat×Nat×Nat×An):=[(256,3,47,.loop { keep:=[0,1,11,13,4,12,10,14],kb:=[0,39,27,13,30],pl:=[.slot 15 false zJ,.srow 5 true T5 true],ex:=[(.exit 0,[])],pay:=.unit })]
theorem mN (x:AG [(false,(.sl false (.sl true T2))),(false,.bool)]):Ac Tryz.prog (AC pu ax) (AI jw) 3000 60 220 [(false,(.sl false (.sl true T2))),(false,.bool)] [(true,H5),zI,zI] x=Ee x:=by kernel_rfl
def az:List (FuncId×Sg):=(220,⟨[(false,(.sl false (.sl true T2))),(false,.bool)],[(true,H5),zI,zI],Ee⟩)::ax
theorem bA:TabOK Tryz.prog (AC pu az):=AF ay mN
theorem mO (x:AG [(true,T4),zI,(false,.bool)]):Ac Tryz.prog (AC pu az) (AI []) 3000 60 182 [(true,T4),zI,(false,.bool)] [(true,WS)] x=CV x:=by kernel_rfl
def bB:List (FuncId×Sg):=(182,⟨[(true,T4),zI,(false,.bool)],[(true,WS)],CV⟩)::az
theorem bC:TabOK Tryz.prog (AC pu bB):=AF bA mO
def jx:List (Nat×Nat×Nat×An):=[(256,3,8,.loop { keep:=[0,1,11,13,4,10,14],kb:=[0],pl:=[.slot 15 false zJ,.srow 5 true T5 true],ex:=[(.exit 0,[])],pay:=.unit })]
theorem mQ (x:AG [(false,(.sl false (.sl true T2))),(false,(.sl false zJ))]):Ac Tryz.prog (AC pu bB) (AI jx) 3000 60 256 [(false,(.sl false (.sl true T2))),(false,(.sl false zJ))] [(true,T7)] x=Fx x:=by kernel_rfl
def bD:List (FuncId×Sg):=(1048832,⟨[(false,(.sl false (.sl true T2))),(false,(.sl false zJ))],[(true,T7)],Fx⟩)::bB
theorem bE:TabOK Tryz.prog (AC pu bD):=AF bC mQ
def jy:List (Nat×Nat×Nat×An):=[(224,4,9,.loop { keep:=[0,1,7,11,9,8,12,6,10],kb:=[],pl:=[.slot 13 false zJ,.slot 4 false .bool],ex:=[(.ret,[]),(.exit 0,[])],pay:=.unit })]
theorem mR (x:AG [(false,(.sl true T5)),(false,(.sl true T5))]):Ac Tryz.prog (AC pu bD) (AI jy) 3000 60 224 [(false,(.sl true T5)),(false,(.sl true T5))] [(false,.bool)] x=Ak x:=by kernel_rfl
def bF:List (FuncId×Sg):=(224,⟨[(false,(.sl true T5)),(false,(.sl true T5))],[(false,.bool)],Ak⟩)::bD
theorem bG:TabOK Tryz.prog (AC pu bF):=AF bE mR
def jz:List (Nat×Nat×Nat×An):=[(223,4,9,.loop { keep:=[0,1,7,11,9,8,12,6,10],kb:=[],pl:=[.slot 13 false zJ,.slot 4 false .bool],ex:=[(.ret,[]),(.exit 0,[])],pay:=.unit })]
theorem mS (x:AG [(false,(.sl false zJ)),(false,(.sl false zJ))]):Ac Tryz.prog (AC pu bF) (AI jz) 3000 60 223 [(false,(.sl false zJ)),(false,(.sl false zJ))] [(false,.bool)] x=Ae x:=by kernel_rfl
def bH:List (FuncId×Sg):=(223,⟨[(false,(.sl false zJ)),(false,(.sl false zJ))],[(false,.bool)],Ae⟩)::bF
theorem bI:TabOK Tryz.prog (AC pu bH):=AF bG mS
theorem mT (x:AG [(true,T7),(true,T7)]):Ac Tryz.prog (AC pu bH) (AI []) 3000 60 255 [(true,T7),(true,T7)] [(false,.bool)] x=EG x:=by kernel_rfl
def bJ:List (FuncId×Sg):=(255,⟨[(true,T7),(true,T7)],[(false,.bool)],EG⟩)::bH
theorem bK:TabOK Tryz.prog (AC pu bJ):=AF bI mT
def j0:List (Nat×Nat×Nat×An):=[(284,8,25,.loop { keep:=[0,1,15,23,11,19,5,9,17,25,21,4,8,16,24,12,20,10,18,26,14,22],kb:=[0,19],pl:=[.slot 3 false zJ,.slot 27 false zJ,.slot 2 false zJ],ex:=[(.ret,[]),(.exit 0,[])],pay:=.unit })]
theorem mU (x:AG [(true,T7)]):Ac Tryz.prog (AC pu bJ) (AI j0) 3000 60 284 [(true,T7)] [zI,zI] x=FC x:=by kernel_rfl
def bL:List (FuncId×Sg):=(284,⟨[(true,T7)],[zI,zI],FC⟩)::bJ
theorem bM:TabOK Tryz.prog (AC pu bL):=AF bK mU
theorem mV (x:AG [(true,T7)]):Ac Tryz.prog (AC pu bL) (AI []) 3000 60 274 [(true,T7)] [zI] x=Ez x:=by kernel_rfl
def bN:List (FuncId×Sg):=(274,⟨[(true,T7)],[zI],Ez⟩)::bL
theorem bO:TabOK Tryz.prog (AC pu bN):=AF bM mV
theorem mW (x:AG [(true,T7)]):Ac Tryz.prog (AC pu bN) (AI []) 3000 60 257 [(true,T7)] [zI,(false,.str),zI] x=Ca x:=by kernel_rfl
def bQ:List (FuncId×Sg):=(257,⟨[(true,T7)],[zI,(false,.str),zI],Ca⟩)::bN
theorem bR:TabOK Tryz.prog (AC pu bQ):=AF bO mW
theorem mX (x:AG [(false,.str)]):Ac Tryz.prog (AC pu bQ) (AI []) 3000 60 275 [(false,.str)] [(false,.bool)] x=C6 x:=by kernel_rfl
def bS:List (FuncId×Sg):=(275,⟨[(false,.str)],[(false,.bool)],C6⟩)::bQ
theorem bT:TabOK Tryz.prog (AC pu bS):=AF bR mX
theorem mY (x:AG [(false,.str),(false,.str)]):Ac Tryz.prog (AC pu bS) (AI []) 3000 60 259 [(false,.str),(false,.str)] [zI] x=Cb x:=by kernel_rfl
def bU:List (FuncId×Sg):=(259,⟨[(false,.str),(false,.str)],[zI],Cb⟩)::bS
theorem bV:TabOK Tryz.prog (AC pu bU):=AF bT mY
end Go.Proofs.YthpkjfabdccpdaaGreat.Pt
