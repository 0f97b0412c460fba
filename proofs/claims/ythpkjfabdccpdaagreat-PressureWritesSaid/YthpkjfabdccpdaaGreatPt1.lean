/- The evaluator comes to each of the plain functions. No condition. -/
import Derived.Test.YthpkjfabdccpdaaGreatPt0
set_option linter.all false
namespace Go.Proofs.YthpkjfabdccpdaaGreat.Pt
open Go Go.Proofs.YthpkjfabdccpdaaGreat.Sv Go.Proofs.YthpkjfabdccpdaaGreat.Pl
set_option maxRecDepth 1000000
set_option linter.unusedVariables false
def mC:List (Nat×Nat×Nat×An):=[(184,4,8,.loop { keep:=[0,7,11,9,8,10],kb:=[],pl:=[.slot 3 false zJ,.slot 2 false zJ,.slot 12 false zJ],ex:=[(.ret,[]),(.exit 0,[])],pay:=.unit })]
theorem oG (x:AG [(false,(.sl true T2))]):Ab Tryz.prog (AD pu cu) (AJ mC) 3000 60 184 [(false,(.sl true T2))] [zI,zI] x=BH x:=by kernel_rfl
def cw:List (FuncId×Sg):=(184,⟨[(false,(.sl true T2))],[zI,zI],BH⟩)::cu
theorem cx:TabOK Tryz.prog (AD pu cw):=AF cv oG
theorem oH (x:AG [(true,T3)]):Ab Tryz.prog (AD pu cw) (AJ []) 3000 60 109 [(true,T3)] [zI,zI] x=FK x:=by kernel_rfl
def cy:List (FuncId×Sg):=(109,⟨[(true,T3)],[zI,zI],FK⟩)::cw
theorem cz:TabOK Tryz.prog (AD pu cy):=AF cx oH
theorem oI (x:AG [(true,T3),zI]):Ab Tryz.prog (AD pu cy) (AJ []) 3000 60 172 [(true,T3),zI] [zI] x=Cu x:=by kernel_rfl
def c0:List (FuncId×Sg):=(172,⟨[(true,T3),zI],[zI],Cu⟩)::cy
theorem dA:TabOK Tryz.prog (AD pu c0):=AF cz oI
def mD:List (Nat×Nat×Nat×An):=[(122,8,26,.loop { keep:=[0,1,15,23,11,19,27,5,17,25,13,21,29,16,24,12,20,28,18,26,14,22],kb:=[0],pl:=[.slot 3 false zJ,.slot 2 false zJ,.slot 4 false zJ,.slot 30 false zJ,.map 18 zJ false .bool],ex:=[(.exit 1,[])],pay:=.unit }),(122,14,44,.loop { keep:=[0,1,7,15,31,23,39,11,19,35,27,5,17,33,25,41,13,21,37,29,2,16,32,24,40,12,20,36,28,6,18,34,26,42,14,22,38,30],kb:=[0,30],pl:=[.slot 3 false zJ,.slot 43 false zJ,.slot 4 false zJ,.map 18 zJ false .bool],ex:=[(.exit 1,[]),(.exit 3,[])],pay:=.unit })]
theorem oJ (x:AG [(true,T4)]):Ab Tryz.prog (AD pu c0) (AJ mD) 3000 60 122 [(true,T4)] [zI,zI,zI] x=DA x:=by kernel_rfl
def dB:List (FuncId×Sg):=(122,⟨[(true,T4)],[zI,zI,zI],DA⟩)::c0
theorem dC:TabOK Tryz.prog (AD pu dB):=AF dA oJ
def mE:List (Nat×Nat×Nat×An):=[(180,2,6,.loop { keep:=[0,1,7,9,8],kb:=[0],pl:=[.slot 2 false zJ,.slot 10 false zJ],ex:=[(.exit 0,[])],pay:=.unit }),(180,5,15,.loop { keep:=[0,1,7,15,11,9,13,4,8,16,12,10,14],kb:=[0,9],pl:=[.slot 17 false zJ,.slot 2 false zJ],ex:=[(.exit 2,[])],pay:=.unit })]
theorem oK (x:AG [(true,T4)]):Ab Tryz.prog (AD pu dB) (AJ mE) 3000 60 180 [(true,T4)] [zI] x=EM x:=by kernel_rfl
def dD:List (FuncId×Sg):=(180,⟨[(true,T4)],[zI],EM⟩)::dB
theorem dE:TabOK Tryz.prog (AD pu dD):=AF dC oK
theorem oL (x:AG [(true,T4),zI]):Ab Tryz.prog (AD pu dD) (AJ []) 3000 60 181 [(true,T4),zI] [(false,.bool)] x=Cv x:=by kernel_rfl
def dF:List (FuncId×Sg):=(181,⟨[(true,T4),zI],[(false,.bool)],Cv⟩)::dD
theorem dG:TabOK Tryz.prog (AD pu dF):=AF dE oL
def mF:List (Nat×Nat×Nat×An):=[(254,6,13,.loop { keep:=[0,15,11,9,17,13,8,16,12,10,14],kb:=[],pl:=[.slot 3 false zJ,.slot 2 false zJ,.slot 18 false zJ],ex:=[(.ret,[]),(.exit 1,[])],pay:=.unit })]
theorem oM (x:AG [(false,(.sl false (.sl true T2)))]):Ab Tryz.prog (AD pu dF) (AJ mF) 3000 60 254 [(false,(.sl false (.sl true T2)))] [zI,zI] x=De x:=by kernel_rfl
def dH:List (FuncId×Sg):=(254,⟨[(false,(.sl false (.sl true T2)))],[zI,zI],De⟩)::dF
theorem dI:TabOK Tryz.prog (AD pu dH):=AF dG oM
theorem oN (x:AG [(false,.bool)]):Ab Tryz.prog (AD pu dH) (AJ []) 3000 60 243 [(false,.bool)] [(true,Ps)] x=Ca x:=by kernel_rfl
def dJ:List (FuncId×Sg):=(243,⟨[(false,.bool)],[(true,Ps)],Ca⟩)::dH
theorem dK:TabOK Tryz.prog (AD pu dJ):=AF dI oN
theorem oO:NW Tryz.prog (λf => !pu f) 1000 100 268=true:=by kernel_rfl
theorem oQ (a:Ty.den (.sl true T2)) (l:List (Ty.den (.sl true T2))):Ab Tryz.prog (AD pu dJ) (AJ []) 3000 60 268 [(false,(.sl false (.sl true T2)))] [(false,(.sl false (.sl true T2)))] (a::l)=Ak (a::l):=by kernel_rfl
def dL:List (FuncId×Sg):=(268,⟨[(false,(.sl false (.sl true T2)))],[(false,(.sl false (.sl true T2)))],Ak⟩)::dJ
theorem dM:TabOK Tryz.prog (AD pu dL):=PN (gg:=false) (c:=(.sl true T2)) dK oO rfl oQ
theorem oR:PO Tryz.prog (λf => !pu f) 1000 100 268=true:=by kernel_rfl
theorem oS (a:Ty.den (.sl true T2)) (l:List (Ty.den (.sl true T2))):QY Tryz.prog (AD pu dL) (AJ []) 3000 60 268 [(false,(.sl false (.sl true T2)))] false (.sl true T2) (a::l)=Ak (a::l):=by kernel_rfl
def dN:List (FuncId×Sg):=(268+GM,⟨[(false,(.sl false (.sl true T2)))],[(false,(.sl false (.sl true T2)))],Ak⟩)::dL
theorem dO:TabOK Tryz.prog (AD pu dN):=PP (gg:=false) (c:=(.sl true T2)) dM oR rfl (λa l y h=>PQ h) oS
theorem oT (x:AG [(false,(.sl true T2)),zI]):Ab Tryz.prog (AD pu dN) (AJ []) 3000 60 272 [(false,(.sl true T2)),zI] [(true,T5)] x=BK x:=by kernel_rfl
def dQ:List (FuncId×Sg):=(272,⟨[(false,(.sl true T2)),zI],[(true,T5)],BK⟩)::dN
theorem dR:TabOK Tryz.prog (AD pu dQ):=AF dO oT
theorem oU (x:AG [(true,T5)]):Ab Tryz.prog (AD pu dQ) (AJ []) 3000 60 289 [(true,T5)] [(false,.bool)] x=DQ x:=by kernel_rfl
def dS:List (FuncId×Sg):=(289,⟨[(true,T5)],[(false,.bool)],DQ⟩)::dQ
theorem dT:TabOK Tryz.prog (AD pu dS):=AF dR oU
def mG:List (Nat×Nat×Nat×An):=[(291,2,22,.loop { keep:=[0,1,7,6],kb:=[],pl:=[.slot 4 false zJ,.slot 8 false zJ],ex:=[(.ret,[]),(.exit 0,[])],pay:=.unit })]
theorem oV (x:AG [(false,(.sl true T5))]):Ab Tryz.prog (AD pu dS) (AJ mG) 3000 60 282 [(false,(.sl true T5))] [zI] x=Df x:=by kernel_rfl
def dU:List (FuncId×Sg):=(282,⟨[(false,(.sl true T5))],[zI],Df⟩)::dS
theorem dV:TabOK Tryz.prog (AD pu dU):=AF dT oV
theorem oW:NW Tryz.prog (λf => !pu f) 1000 100 285=true:=by kernel_rfl
theorem oX (a:Ty.den T5) (l:List (Ty.den T5)):Ab Tryz.prog (AD pu dU) (AJ []) 3000 60 285 [(false,(.sl true T5))] [(false,(.sl true T5))] (a::l)=Al (a::l):=by kernel_rfl
def dW:List (FuncId×Sg):=(285,⟨[(false,(.sl true T5))],[(false,(.sl true T5))],Al⟩)::dU
theorem dX:TabOK Tryz.prog (AD pu dW):=PN (gg:=true) (c:=T5) dV oW rfl oX
end Go.Proofs.YthpkjfabdccpdaaGreat.Pt
