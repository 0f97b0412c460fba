/- The evaluator comes to each of the plain functions. No condition. -/
import Derived.Test.YtfilfloanndddaaGreatPt3
set_option linter.all false
namespace Go.Proofs.YtfilfloanndddaaGreat.Pt
open Go Go.Proofs.YtfilfloanndddaaGreat.Sv Go.Proofs.YtfilfloanndddaaGreat.Pl
set_option maxRecDepth 1000000
set_option linter.unusedVariables false
theorem rF (x:AH [(true,T7)]):Ac Tryz.prog (AC pu gn) (AK []) 3000 60 208 [(true,T7)] [zI,(false,.str),zI] x=Cr x:=by kernel_rfl
def gq:List (FuncId×Sg):=(208,⟨[(true,T7)],[zI,(false,.str),zI],Cr⟩)::gn
theorem gr:TabOK Tryz.prog (AC pu gq):=AF gp rF
theorem rG (x:AH [(false,.str)]):Ac Tryz.prog (AC pu gq) (AK []) 3000 60 225 [(false,.str)] [(false,.bool)] x=DN x:=by kernel_rfl
def gu:List (FuncId×Sg):=(225,⟨[(false,.str)],[(false,.bool)],DN⟩)::gq
theorem gv:TabOK Tryz.prog (AC pu gu):=AF gr rG
theorem rH (x:AH [(false,.str),(false,.str)]):Ac Tryz.prog (AC pu gu) (AK []) 3000 60 210 [(false,.str),(false,.str)] [zI] x=Cs x:=by kernel_rfl
def gw:List (FuncId×Sg):=(210,⟨[(false,.str),(false,.str)],[zI],Cs⟩)::gu
theorem gx:TabOK Tryz.prog (AC pu gw):=AF gv rH
theorem rI (x:AH [zI]):Ac Tryz.prog (AC pu gw) (AK []) 3000 60 226 [zI] [(false,.bool)] x=Ef x:=by kernel_rfl
def gy:List (FuncId×Sg):=(226,⟨[zI],[(false,.bool)],Ef⟩)::gw
theorem gz:TabOK Tryz.prog (AC pu gy):=AF gx rI
theorem rJ (x:AH [zI,zI]):Ac Tryz.prog (AC pu gy) (AK []) 3000 60 211 [zI,zI] [zI] x=CS x:=by kernel_rfl
def g9:List (FuncId×Sg):=(211,⟨[zI,zI],[zI],CS⟩)::gy
theorem hC:TabOK Tryz.prog (AC pu g9):=AF gz rJ
def oY:List (Nat×Nat×Nat×An):=[(209,3,5,.loop { keep:=[0,3,7,6],kb:=[],pl:=[.slot 2 false zJ,.slot 8 false zJ],ex:=[(.ret,[]),(.exit 0,[])],pay:=.unit })]
theorem rK (x:AH [(false,(.sl false zJ))]):Ac Tryz.prog (AC pu g9) (AK oY) 3000 60 209 [(false,(.sl false zJ))] [zI] x=Gp x:=by kernel_rfl
def hG:List (FuncId×Sg):=(209,⟨[(false,(.sl false zJ))],[zI],Gp⟩)::g9
theorem iA:TabOK Tryz.prog (AC pu hG):=AF hC rK
def oZ:List (Nat×Nat×Nat×An):=[(191,7,24,.loop { keep:=[0,1,15,31,23,19,27,5,17,25,13,29,4,16,24,12,28,18,26,14,22,30],kb:=[0],pl:=[.slot 3 false zJ,.slot 2 false zJ,.slot 32 false zJ],ex:=[(.ret,[]),(.exit 0,[])],pay:=.unit }),(191,18,49,.loop { keep:=[0,1,15,31,63,23,71,55,19,67,51,27,59,5,9,17,65,25,57,13,69,53,29,61,4,8,16,32,64,24,56,12,68,52,28,60,18,66,26,58,14,22,70,54,30,62],kb:=[0],pl:=[.slot 3 false zJ,.slot 2 false zJ,.slot 72 false zJ],ex:=[(.ret,[]),(.exit 2,[])],pay:=.unit })]
theorem rL (x:AH [(true,T9)]):Ac Tryz.prog (AC pu hG) (AK oZ) 3000 60 191 [(true,T9)] [zI,zI] x=Dr x:=by kernel_rfl
def iB:List (FuncId×Sg):=(191,⟨[(true,T9)],[zI,zI],Dr⟩)::hG
theorem iC:TabOK Tryz.prog (AC pu iB):=AF iA rL
theorem rM:ML Tryz.prog (λf => !pu f) 1000 100 228=true:=by kernel_rfl
theorem rN (a:Ty.den zJ) (l:List (Ty.den zJ)):Ac Tryz.prog (AC pu iB) (AK []) 3000 60 228 [(false,(.sl false zJ))] [(false,(.sl false zJ))] (a::l)=A7 (a::l):=by kernel_rfl
def iD:List (FuncId×Sg):=(228,⟨[(false,(.sl false zJ))],[(false,(.sl false zJ))],A7⟩)::iB
theorem iE:TabOK Tryz.prog (AC pu iD):=NM (gg:=false) (c:=zJ) iC rM rfl rN
theorem rO:OI Tryz.prog (λf => !pu f) 1000 100 228=true:=by kernel_rfl
theorem rQ (a:Ty.den zJ) (l:List (Ty.den zJ)):Pp Tryz.prog (AC pu iD) (AK []) 3000 60 228 [(false,(.sl false zJ))] false zJ (a::l)=A7 (a::l):=by kernel_rfl
def iF:List (FuncId×Sg):=(228+GS,⟨[(false,(.sl false zJ))],[(false,(.sl false zJ))],A7⟩)::iD
theorem iG:TabOK Tryz.prog (AC pu iF):=NN (gg:=false) (c:=zJ) iE rO rfl (λa l y h=>NO h) rQ
theorem rR (x:AH [zI,zI,(true,pw)]):YF Tryz.prog (AC pu iF) (AK []) 3000 60 239 [zI,zI,(true,pw)] [(false,.bool)] x=Bm x:=by kernel_rfl
def iH:List (FuncId×Sg):=(3145967,⟨[zI,zI,(true,pw)],[(false,.bool)],Bm⟩)::iF
theorem iI:TabOK Tryz.prog (AC pu iH):=kj (f:=239) iG rR
def oa:List (Nat×Nat×Nat×An):=[(229,13,63,.loop { keep:=[0,1,3,7,31,63,47,55,11,19,35,51,27,43,59,9,17,33,49,25,41,57,13,21,37,53,29,61,2,4,8,32,24,40,56,12,20,36,52,28,44,60,6,18,34,50,26,42,58,14,38,54,30,46,62],kb:=[0,1,33,52],pl:=[.slot 5 false zJ,.slot 10 false zJ,.box 2 [.kp 33,.ow false zJ false,.lf zJ]],ex:=[(.exit 0,[])],pay:=.unit })]
theorem rS (x:AH [(true,T7),(true,T5)]):Ac Tryz.prog (AC pu iH) (AK oa) 3000 60 229 [(true,T7),(true,T5)] [(true,T7),zI,zI] x=CX x:=by kernel_rfl
def iJ:List (FuncId×Sg):=(229,⟨[(true,T7),(true,T5)],[(true,T7),zI,zI],CX⟩)::iH
theorem iK:TabOK Tryz.prog (AC pu iJ):=AF iI rS
def oc:List (Nat×Nat×Nat×An):=[(227,0,45,.loop { keep:=[0,1],kb:=[39,35,43,9,13,44],pl:=[.box 0 [.ow true T2 false],.box 1 [.ow false zJ false]],ex:=[(.ret,[(44,0,none)])],pay:=.unit }),(207,3,47,.loop { keep:=[0,1,11,13,4,10,14],kb:=[0,1,39,27,13,30],pl:=[.slot 15 false zJ,.srow 5 true T5 true],ex:=[(.exit 0,[])],pay:=.unit }),(227,0,72,.loop { keep:=[0,1],kb:=[47,39,71,9,13,53,66,70,30],pl:=[.box 0 [.ow true T2 false],.box 1 [.ow false zJ false],.box 62 [.kp 30,.ow false zJ true,.lf (.sl true T5),.lf (.sl false zJ),.lf zJ]],ex:=[(.ret,[(71,0,none)])],pay:=.unit })]
theorem rT (x:AH [(false,(.sl false (.sl true T2)))]):Ac Tryz.prog (AC pu iJ) (AK oc) 3000 60 192 [(false,(.sl false (.sl true T2)))] [(false,(.sl true T2)),(false,(.sl false zJ)),zI] x=Hl x:=by kernel_rfl
def iL:List (FuncId×Sg):=(192,⟨[(false,(.sl false (.sl true T2)))],[(false,(.sl true T2)),(false,(.sl false zJ)),zI],Hl⟩)::iJ
theorem iM:TabOK Tryz.prog (AC pu iL):=AF iK rT
theorem rU (x:AH [(true,Qk)]):Ac Tryz.prog (AC pu iL) (AK []) 3000 60 230 [(true,Qk)] [zI] x=D7 x:=by kernel_rfl
def iN:List (FuncId×Sg):=(230,⟨[(true,Qk)],[zI],D7⟩)::iL
theorem iO:TabOK Tryz.prog (AC pu iN):=AF iM rU
theorem rV (x:AH [(true,T2)]):Ac Tryz.prog (AC pu iN) (AK []) 3000 60 256 [(true,T2)] [(true,T2)] x=BJ x:=by kernel_rfl
def iQ:List (FuncId×Sg):=(256,⟨[(true,T2)],[(true,T2)],BJ⟩)::iN
theorem iR:TabOK Tryz.prog (AC pu iQ):=AF iO rV
end Go.Proofs.YtfilfloanndddaaGreat.Pt
