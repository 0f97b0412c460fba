/- The evaluator comes to each of the plain functions. No condition. -/
import Derived.Test.YthpkjfabdccpdaaGreatPt2
set_option linter.all false
namespace Go.Proofs.YthpkjfabdccpdaaGreat.Pt
open Go Go.Proofs.YthpkjfabdccpdaaGreat.Sv Go.Proofs.YthpkjfabdccpdaaGreat.Pl
set_option maxRecDepth 1000000
set_option linter.unusedVariables false
theorem o0 (x:AG [zI]):Ab Tryz.prog (AD pu eC) (AJ []) 3000 60 276 [zI] [(false,.bool)] x=EN x:=by kernel_rfl
def eF:List (FuncId×Sg):=(276,⟨[zI],[(false,.bool)],EN⟩)::eC
theorem eG:TabOK Tryz.prog (AD pu eF):=AF eE o0
theorem o4 (x:AG [zI,zI]):Ab Tryz.prog (AD pu eF) (AJ []) 3000 60 260 [zI,zI] [zI] x=CK x:=by kernel_rfl
def eI:List (FuncId×Sg):=(260,⟨[zI,zI],[zI],CK⟩)::eF
theorem eJ:TabOK Tryz.prog (AD pu eI):=AF eG o4
def mN:List (Nat×Nat×Nat×An):=[(258,3,5,.loop { keep:=[0,3,7,6],kb:=[],pl:=[.slot 2 false zJ,.slot 8 false zJ],ex:=[(.ret,[]),(.exit 0,[])],pay:=.unit })]
theorem o5 (x:AG [(false,(.sl false zJ))]):Ab Tryz.prog (AD pu eI) (AJ mN) 3000 60 258 [(false,(.sl false zJ))] [zI] x=GU x:=by kernel_rfl
def eK:List (FuncId×Sg):=(258,⟨[(false,(.sl false zJ))],[zI],GU⟩)::eI
theorem eL:TabOK Tryz.prog (AD pu eK):=AF eJ o5
def mO:List (Nat×Nat×Nat×An):=[(240,7,24,.loop { keep:=[0,1,15,31,23,19,27,5,17,25,13,29,4,16,24,12,28,18,26,14,22,30],kb:=[0],pl:=[.slot 3 false zJ,.slot 2 false zJ,.slot 32 false zJ],ex:=[(.ret,[]),(.exit 0,[])],pay:=.unit }),(240,18,49,.loop { keep:=[0,1,15,31,63,23,71,55,19,67,51,27,59,5,9,17,65,25,57,13,69,53,29,61,4,8,16,32,64,24,56,12,68,52,28,60,18,66,26,58,14,22,70,54,30,62],kb:=[0],pl:=[.slot 3 false zJ,.slot 2 false zJ,.slot 72 false zJ],ex:=[(.ret,[]),(.exit 2,[])],pay:=.unit })]
theorem o6 (x:AG [(true,T9)]):Ab Tryz.prog (AD pu eK) (AJ mO) 3000 60 240 [(true,T9)] [zI,zI] x=Dg x:=by kernel_rfl
def eM:List (FuncId×Sg):=(240,⟨[(true,T9)],[zI,zI],Dg⟩)::eK
theorem eN:TabOK Tryz.prog (AD pu eM):=AF eL o6
theorem o7:NW Tryz.prog (λf => !pu f) 1000 100 278=true:=by kernel_rfl
theorem o8 (a:Ty.den zJ) (l:List (Ty.den zJ)):Ab Tryz.prog (AD pu eM) (AJ []) 3000 60 278 [(false,(.sl false zJ))] [(false,(.sl false zJ))] (a::l)=A0 (a::l):=by kernel_rfl
def eO:List (FuncId×Sg):=(278,⟨[(false,(.sl false zJ))],[(false,(.sl false zJ))],A0⟩)::eM
theorem eP:TabOK Tryz.prog (AD pu eO):=PN (gg:=false) (c:=zJ) eN o7 rfl o8
theorem o9:PO Tryz.prog (λf => !pu f) 1000 100 278=true:=by kernel_rfl
theorem pA (a:Ty.den zJ) (l:List (Ty.den zJ)):QY Tryz.prog (AD pu eO) (AJ []) 3000 60 278 [(false,(.sl false zJ))] false zJ (a::l)=A0 (a::l):=by kernel_rfl
def eQ:List (FuncId×Sg):=(278+GM,⟨[(false,(.sl false zJ))],[(false,(.sl false zJ))],A0⟩)::eO
theorem eR:TabOK Tryz.prog (AD pu eQ):=PP (gg:=false) (c:=zJ) eP o9 rfl (λa l y h=>PQ h) pA
theorem pB (x:AG [zI,zI,(true,nr)]):W7 Tryz.prog (AD pu eQ) (AJ []) 3000 60 290 [zI,zI,(true,nr)] [(false,.bool)] x=Bg x:=by kernel_rfl
def eU:List (FuncId×Sg):=(3146018,⟨[zI,zI,(true,nr)],[(false,.bool)],Bg⟩)::eQ
theorem eV:TabOK Tryz.prog (AD pu eU):=jA (f:=290) eR pB
def mQ:List (Nat×Nat×Nat×An):=[(279,13,63,.loop { keep:=[0,1,3,7,31,63,47,55,11,19,35,51,27,43,59,9,17,33,49,25,41,57,13,21,37,53,29,45,61,2,4,8,32,48,24,40,56,12,20,36,52,28,44,60,6,18,34,50,26,42,58,14,38,54,30,46,62],kb:=[0,1,33,52],pl:=[.slot 5 false zJ,.slot 10 false zJ,.box 2 [.kp 33,.ow false zJ false,.lf zJ]],ex:=[(.exit 0,[])],pay:=.unit })]
theorem pC (x:AG [(true,T7),(true,T5)]):Ab Tryz.prog (AD pu eU) (AJ mQ) 3000 60 279 [(true,T7),(true,T5)] [(true,T7),zI,zI] x=CN x:=by kernel_rfl
def eW:List (FuncId×Sg):=(279,⟨[(true,T7),(true,T5)],[(true,T7),zI,zI],CN⟩)::eU
theorem eX:TabOK Tryz.prog (AD pu eW):=AF eV pC
def mR:List (Nat×Nat×Nat×An):=[(277,0,45,.loop { keep:=[0,1],kb:=[39,35,43,9,13,44],pl:=[.box 0 [.ow true T2 false],.box 1 [.ow false zJ false]],ex:=[(.ret,[(44,0,none)])],pay:=.unit }),(256,3,47,.loop { keep:=[0,1,11,13,4,12,10,14],kb:=[0,1,39,27,13,30],pl:=[.slot 15 false zJ,.srow 5 true T5 true],ex:=[(.exit 0,[])],pay:=.unit }),(277,0,72,.loop { keep:=[0,1],kb:=[47,39,71,9,13,53,66,70,30],pl:=[.box 0 [.ow true T2 false],.box 1 [.ow false zJ false],.box 62 [.kp 30,.ow false zJ true,.lf (.sl true T5),.lf (.sl false zJ),.lf zJ]],ex:=[(.ret,[(71,0,none)])],pay:=.unit })]
theorem pD (x:AG [(false,(.sl false (.sl true T2)))]):Ab Tryz.prog (AD pu eW) (AJ mR) 3000 60 241 [(false,(.sl false (.sl true T2)))] [(false,(.sl true T2)),(false,(.sl false zJ)),zI] x=HQ x:=by kernel_rfl
def eY:List (FuncId×Sg):=(241,⟨[(false,(.sl false (.sl true T2)))],[(false,(.sl true T2)),(false,(.sl false zJ)),zI],HQ⟩)::eW
theorem eZ:TabOK Tryz.prog (AD pu eY):=AF eX pD
theorem pE (x:AG [(true,Ps)]):Ab Tryz.prog (AD pu eY) (AJ []) 3000 60 280 [(true,Ps)] [zI] x=D1 x:=by kernel_rfl
def ec:List (FuncId×Sg):=(280,⟨[(true,Ps)],[zI],D1⟩)::eY
theorem ef:TabOK Tryz.prog (AD pu ec):=AF eZ pE
theorem pF (x:AG [(true,T2)]):Ab Tryz.prog (AD pu ec) (AJ []) 3000 60 307 [(true,T2)] [(true,T2)] x=BB x:=by kernel_rfl
def eh:List (FuncId×Sg):=(307,⟨[(true,T2)],[(true,T2)],BB⟩)::ec
theorem ei:TabOK Tryz.prog (AD pu eh):=AF ef pF
def mS:List (Nat×Nat×Nat×An):=[(262,5,24,.loop { keep:=[0,1,15,19,17,2,8,16,20,18,14],kb:=[],pl:=[.slot 7 false zJ,.slot 21 false zJ,.slot 6 false zJ,.box 19 [.lf .bool,.lf .str,.lf .bool],.box 0 [.ow true T2 false]],ex:=[(.ret,[]),(.exit 0,[])],pay:=.unit })]
theorem pG (x:AG [(false,(.sl true T2)),(false,.bool)]):Ab Tryz.prog (AD pu eh) (AJ mS) 3000 60 242 [(false,(.sl true T2)),(false,.bool)] [(false,(.sl true T2)),zI,zI] x=EO x:=by kernel_rfl
def ej:List (FuncId×Sg):=(242,⟨[(false,(.sl true T2)),(false,.bool)],[(false,(.sl true T2)),zI,zI],EO⟩)::eh
theorem eu:TabOK Tryz.prog (AD pu ej):=AF ei pG
def mT:List (Nat×Nat×Nat×An):=[(244,4,9,.loop { keep:=[0,1,7,11,9,13,8,12,10],kb:=[],pl:=[.slot 4 false .bool,.slot 14 false zJ],ex:=[(.ret,[]),(.exit 0,[])],pay:=.unit })]
theorem pH (x:AG [(false,(.sl true T2)),(false,(.sl true T2))]):Ab Tryz.prog (AD pu ej) (AJ mT) 3000 60 244 [(false,(.sl true T2)),(false,(.sl true T2))] [(false,.bool)] x=D2 x:=by kernel_rfl
def ew:List (FuncId×Sg):=(244,⟨[(false,(.sl true T2)),(false,(.sl true T2))],[(false,.bool)],D2⟩)::ej
theorem ez:TabOK Tryz.prog (AD pu ew):=AF eu pH
def mU:List (Nat×Nat×Nat×An):=[(214,6,18,.loop { keep:=[0,1,3,15,23,19,17,25,21,2,4,16,24,20,18,26,14],kb:=[0],pl:=[.slot 27 false zJ,.slot 5 false zJ],ex:=[(.exit 0,[])],pay:=.unit })]
theorem pI (x:AG [(true,Ii)]):Ab Tryz.prog (AD pu ew) (AJ mU) 3000 60 214 [(true,Ii)] [zI] x=Ev x:=by kernel_rfl
def e8:List (FuncId×Sg):=(214,⟨[(true,Ii)],[zI],Ev⟩)::ew
theorem e9:TabOK Tryz.prog (AD pu e8):=AF ez pI
end Go.Proofs.YthpkjfabdccpdaaGreat.Pt
