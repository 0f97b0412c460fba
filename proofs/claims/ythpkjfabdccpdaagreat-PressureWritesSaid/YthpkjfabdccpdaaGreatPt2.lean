/- The evaluator comes to each of the plain functions. No condition. -/
import Derived.Test.YthpkjfabdccpdaaGreatPt1
set_option linter.all false
namespace Go.Proofs.YthpkjfabdccpdaaGreat.Pt
open Go Go.Proofs.YthpkjfabdccpdaaGreat.Sv Go.Proofs.YthpkjfabdccpdaaGreat.Pl
set_option maxRecDepth 1000000
set_option linter.unusedVariables false
theorem oY:PO Tryz.prog (λf => !pu f) 1000 100 285=true:=by kernel_rfl
theorem oZ (a:Ty.den T5) (l:List (Ty.den T5)):QY Tryz.prog (AD pu dW) (AJ []) 3000 60 285 [(false,(.sl true T5))] true T5 (a::l)=Al (a::l):=by kernel_rfl
def dY:List (FuncId×Sg):=(285+GM,⟨[(false,(.sl true T5))],[(false,(.sl true T5))],Al⟩)::dW
theorem dZ:TabOK Tryz.prog (AD pu dY):=PP (gg:=true) (c:=T5) dX oY rfl (λa l y h=>PQ h) oZ
def mH:List (Nat×Nat×Nat×An):=[(283,6,26,.loop { keep:=[0,3,15,23,11,19,17,13,21,2,4,16,24,12,20,6,10,18,14,22],kb:=[0,7],pl:=[.slot 7 false zJ,.srow 5 false zJ true,.box 20 [.ow true T5 false,.ow false zJ true,.lf zJ]],ex:=[(.exit 0,[])],pay:=.unit })]
theorem oa (x:AG [(false,(.sl true T5))]):Ab Tryz.prog (AD pu dY) (AJ mH) 3000 60 283 [(false,(.sl true T5))] [(true,T7)] x=FL x:=by kernel_rfl
def da:List (FuncId×Sg):=(283,⟨[(false,(.sl true T5))],[(true,T7)],FL⟩)::dY
theorem db:TabOK Tryz.prog (AD pu da):=AF dZ oa
theorem oc (x:AG [(false,(.sl true T5))]):Ab Tryz.prog (AD pu da) (AJ []) 3000 60 273 [(false,(.sl true T5))] [(true,T7),zI] x=CW x:=by kernel_rfl
def de:List (FuncId×Sg):=(273,⟨[(false,(.sl true T5))],[(true,T7),zI],CW⟩)::da
theorem dg:TabOK Tryz.prog (AD pu de):=AF db oc
def mI:List (Nat×Nat×Nat×An):=[(256,3,47,.loop { keep:=[0,1,11,13,4,12,10,14],kb:=[0,39,27,13,30],pl:=[.slot 15 false zJ,.srow 5 true T5 true],ex:=[(.exit 0,[])],pay:=.unit })]
theorem od (x:AG [(false,(.sl false (.sl true T2))),(false,.bool)]):Ab Tryz.prog (AD pu de) (AJ mI) 3000 60 220 [(false,(.sl false (.sl true T2))),(false,.bool)] [(true,Ii),zI,zI] x=Eu x:=by kernel_rfl
def dh:List (FuncId×Sg):=(220,⟨[(false,(.sl false (.sl true T2))),(false,.bool)],[(true,Ii),zI,zI],Eu⟩)::de
theorem di:TabOK Tryz.prog (AD pu dh):=AF dg od
theorem oe (x:AG [(true,T4),zI,(false,.bool)]):Ab Tryz.prog (AD pu dh) (AJ []) 3000 60 182 [(true,T4),zI,(false,.bool)] [(true,Pv)] x=CX x:=by kernel_rfl
def dj:List (FuncId×Sg):=(182,⟨[(true,T4),zI,(false,.bool)],[(true,Pv)],CX⟩)::dh
theorem dk:TabOK Tryz.prog (AD pu dj):=AF di oe
def mJ:List (Nat×Nat×Nat×An):=[(256,3,8,.loop { keep:=[0,1,11,13,4,10,14],kb:=[0],pl:=[.slot 15 false zJ,.srow 5 true T5 true],ex:=[(.exit 0,[])],pay:=.unit })]
theorem og (x:AG [(false,(.sl false (.sl true T2))),(false,(.sl false zJ))]):Ab Tryz.prog (AD pu dj) (AJ mJ) 3000 60 256 [(false,(.sl false (.sl true T2))),(false,(.sl false zJ))] [(true,T7)] x=GT x:=by kernel_rfl
def dl:List (FuncId×Sg):=(1048832,⟨[(false,(.sl false (.sl true T2))),(false,(.sl false zJ))],[(true,T7)],GT⟩)::dj
theorem dm:TabOK Tryz.prog (AD pu dl):=AF dk og
def mK:List (Nat×Nat×Nat×An):=[(224,4,9,.loop { keep:=[0,1,7,11,9,8,12,6,10],kb:=[],pl:=[.slot 13 false zJ,.slot 4 false .bool],ex:=[(.ret,[]),(.exit 0,[])],pay:=.unit })]
theorem oh (x:AG [(false,(.sl true T5)),(false,(.sl true T5))]):Ab Tryz.prog (AD pu dl) (AJ mK) 3000 60 224 [(false,(.sl true T5)),(false,(.sl true T5))] [(false,.bool)] x=Am x:=by kernel_rfl
def dq:List (FuncId×Sg):=(224,⟨[(false,(.sl true T5)),(false,(.sl true T5))],[(false,.bool)],Am⟩)::dl
theorem dt:TabOK Tryz.prog (AD pu dq):=AF dm oh
def mL:List (Nat×Nat×Nat×An):=[(223,4,9,.loop { keep:=[0,1,7,11,9,8,12,6,10],kb:=[],pl:=[.slot 13 false zJ,.slot 4 false .bool],ex:=[(.ret,[]),(.exit 0,[])],pay:=.unit })]
theorem oi (x:AG [(false,(.sl false zJ)),(false,(.sl false zJ))]):Ab Tryz.prog (AD pu dq) (AJ mL) 3000 60 223 [(false,(.sl false zJ)),(false,(.sl false zJ))] [(false,.bool)] x=Ag x:=by kernel_rfl
def du:List (FuncId×Sg):=(223,⟨[(false,(.sl false zJ)),(false,(.sl false zJ))],[(false,.bool)],Ag⟩)::dq
theorem dv:TabOK Tryz.prog (AD pu du):=AF dt oi
theorem om (x:AG [(true,T7),(true,T7)]):Ab Tryz.prog (AD pu du) (AJ []) 3000 60 255 [(true,T7),(true,T7)] [(false,.bool)] x=EW x:=by kernel_rfl
def dw:List (FuncId×Sg):=(255,⟨[(true,T7),(true,T7)],[(false,.bool)],EW⟩)::du
theorem dx:TabOK Tryz.prog (AD pu dw):=AF dv om
def mM:List (Nat×Nat×Nat×An):=[(284,8,25,.loop { keep:=[0,1,15,23,11,19,5,9,17,25,21,4,8,16,24,12,20,10,18,26,14,22],kb:=[0,19],pl:=[.slot 3 false zJ,.slot 27 false zJ,.slot 2 false zJ],ex:=[(.ret,[]),(.exit 0,[])],pay:=.unit })]
theorem oq (x:AG [(true,T7)]):Ab Tryz.prog (AD pu dw) (AJ mM) 3000 60 284 [(true,T7)] [zI,zI] x=Fe x:=by kernel_rfl
def dy:List (FuncId×Sg):=(284,⟨[(true,T7)],[zI,zI],Fe⟩)::dw
theorem dz:TabOK Tryz.prog (AD pu dy):=AF dx oq
theorem ot (x:AG [(true,T7)]):Ab Tryz.prog (AD pu dy) (AJ []) 3000 60 274 [(true,T7)] [zI] x=FM x:=by kernel_rfl
def d6:List (FuncId×Sg):=(274,⟨[(true,T7)],[zI],FM⟩)::dy
theorem d7:TabOK Tryz.prog (AD pu d6):=AF dz ot
theorem ou (x:AG [(true,T7)]):Ab Tryz.prog (AD pu d6) (AJ []) 3000 60 257 [(true,T7)] [zI,(false,.str),zI] x=Cb x:=by kernel_rfl
def d8:List (FuncId×Sg):=(257,⟨[(true,T7)],[zI,(false,.str),zI],Cb⟩)::d6
theorem d9:TabOK Tryz.prog (AD pu d8):=AF d7 ou
theorem ov (x:AG [(false,.str)]):Ab Tryz.prog (AD pu d8) (AJ []) 3000 60 275 [(false,.str)] [(false,.bool)] x=DB x:=by kernel_rfl
def eA:List (FuncId×Sg):=(275,⟨[(false,.str)],[(false,.bool)],DB⟩)::d8
theorem eB:TabOK Tryz.prog (AD pu eA):=AF d9 ov
theorem oz (x:AG [(false,.str),(false,.str)]):Ab Tryz.prog (AD pu eA) (AJ []) 3000 60 259 [(false,.str),(false,.str)] [zI] x=Cc x:=by kernel_rfl
def eC:List (FuncId×Sg):=(259,⟨[(false,.str),(false,.str)],[zI],Cc⟩)::eA
theorem eE:TabOK Tryz.prog (AD pu eC):=AF eB oz
end Go.Proofs.YthpkjfabdccpdaaGreat.Pt
