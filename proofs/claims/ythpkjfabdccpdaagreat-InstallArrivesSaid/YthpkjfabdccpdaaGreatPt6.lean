/- The evaluator comes to each of the plain functions. No condition. -/
import Derived.Test.YthpkjfabdccpdaaGreatPt5
set_option linter.all false
namespace Go.Proofs.YthpkjfabdccpdaaGreat.Pt
open Go Go.Proofs.YthpkjfabdccpdaaGreat.Sv Go.Proofs.YthpkjfabdccpdaaGreat.Pl
set_option maxRecDepth 1000000
set_option linter.unusedVariables false
theorem mJ (x:AG [(false,(.sl true T2)),(false,(.sl true T2))]):Aa Tryz.prog (AB pu cv) (AH []) 3000 60 222 [(false,(.sl true T2)),(false,(.sl true T2))] [(false,.bool)] x=Bg x:=by kernel_rfl
def cx:List (FuncId×Sg):=(222,⟨[(false,(.sl true T2)),(false,(.sl true T2))],[(false,.bool)],Bg⟩)::cv
theorem cy:TabOK Tryz.prog (AB pu cx):=AE cw mJ
def jO:List (Nat×Nat×Nat×An):=[(221,4,81,.loop { keep:=[0,1,15,11,13,2,16,12,10,14],kb:=[0,1,7,8],pl:=[.slot 17 false (.int .i64),.slot 6 false .bool],ex:=[(.ret,[]),(.exit 0,[])],pay:=.unit })]
theorem mK (x:AG [(true,H4),(true,H4)]):Aa Tryz.prog (AB pu cx) (AH jO) 3000 60 183 [(true,H4),(true,H4)] [(false,.bool)] x=C7 x:=by kernel_rfl
def cz:List (FuncId×Sg):=(183,⟨[(true,H4),(true,H4)],[(false,.bool)],C7⟩)::cx
theorem c0:TabOK Tryz.prog (AB pu cz):=AE cy mK
def jP:List (Nat×Nat×Nat×An):=[(219,1,52,.loop { keep:=[0,1,7,5,6],kb:=[0,47,35,46],pl:=[.slot 8 false (.int .i64),.box 43 [.ow false (.int .i64) false]],ex:=[(.exit 0,[(47,0,none)])],pay:=.unit }),(107,10,59,.loop { keep:=[0,1,15,31,47,23,39,19,35,27,43,17,33,25,41,21,37,29,45,4,16,32,40,20,36,28,44,18,34,26,42,14,22,38,30,46],kb:=[0,47,35,43,52],pl:=[.slot 3 false (.int .i64),.slot 2 false (.int .i64),.slot 48 false (.int .i64)],ex:=[(.ret,[(47,3,none)]),(.exit 1,[(47,3,none)])],pay:=.unit })]
theorem mL (x:AG [(true,E5)]):Aa Tryz.prog (AB pu cz) (AH jP) 3000 60 107 [(true,E5)] [(false,(.int .i64)),(false,(.int .i64))] x=Ce x:=by kernel_rfl
def dA:List (FuncId×Sg):=(107,⟨[(true,E5)],[(false,(.int .i64)),(false,(.int .i64))],Ce⟩)::cz
theorem dB:TabOK Tryz.prog (AB pu dA):=AE c0 mL
def jQ:List (Nat×Nat×Nat×An):=[(238,2,31,.loop { keep:=[0,1,7,6],kb:=[0,1],pl:=[.slot 4 false (.int .i64),.slot 8 false (.int .i64)],ex:=[(.ret,[]),(.exit 0,[])],pay:=.unit })]
theorem mM (x:AG [(true,E5),(false,(.int .i64))]):Aa Tryz.prog (AB pu dA) (AH jQ) 3000 60 151 [(true,E5),(false,(.int .i64))] [(false,(.int .i64)),(false,(.int .i64))] x=Hr x:=by kernel_rfl
def dC:List (FuncId×Sg):=(151,⟨[(true,E5),(false,(.int .i64))],[(false,(.int .i64)),(false,(.int .i64))],Hr⟩)::dA
theorem dD:TabOK Tryz.prog (AB pu dC):=AE dB mM
theorem nh (x:AG [(true,E5),(false,(.int .i64))]):Aa Tryz.prog (AB pu dC) (AH []) 3000 60 88 [(true,E5),(false,(.int .i64))] [(true,WC),(false,(.int .i64))] x=E1 x:=by kernel_rfl
def dE:List (FuncId×Sg):=(88,⟨[(true,E5),(false,(.int .i64))],[(true,WC),(false,(.int .i64))],E1⟩)::dC
theorem dF:TabOK Tryz.prog (AB pu dE):=AE dD nh
theorem ni (x:AG [(true,WC)]):Aa Tryz.prog (AB pu dE) (AH []) 3000 60 89 [(true,WC)] [(false,.bool)] x=Bw x:=by kernel_rfl
def dG:List (FuncId×Sg):=(89,⟨[(true,WC)],[(false,.bool)],Bw⟩)::dE
theorem dH:TabOK Tryz.prog (AB pu dG):=AE dF ni
theorem nj (x:AG [(false,(.int .i64)),(false,(.int .i64))]):Aa Tryz.prog (AB pu dG) (AH []) 3000 60 44 [(false,(.int .i64)),(false,(.int .i64))] [(false,(.int .i64)),(false,(.int .i64))] x=H3 x:=by kernel_rfl
def dI:List (FuncId×Sg):=(44,⟨[(false,(.int .i64)),(false,(.int .i64))],[(false,(.int .i64)),(false,(.int .i64))],H3⟩)::dG
theorem dJ:TabOK Tryz.prog (AB pu dI):=AE dH nj
theorem nk (x:AG [(true,WC)]):Aa Tryz.prog (AB pu dI) (AH []) 3000 60 92 [(true,WC)] [(false,.bool)] x=Bx x:=by kernel_rfl
def dK:List (FuncId×Sg):=(92,⟨[(true,WC)],[(false,.bool)],Bx⟩)::dI
theorem dL:TabOK Tryz.prog (AB pu dK):=AE dJ nk
theorem mN (x:AG [(true,T4),(false,(.int .i64))]):Aa Tryz.prog (AB pu dK) (AH []) 3000 60 169 [(true,T4),(false,(.int .i64))] [(false,(.int .i64))] x=Ef x:=by kernel_rfl
def dM:List (FuncId×Sg):=(169,⟨[(true,T4),(false,(.int .i64))],[(false,(.int .i64))],Ef⟩)::dK
theorem dN:TabOK Tryz.prog (AB pu dM):=AE dL mN
theorem mO (x:AG [(true,T4),(false,(.int .i64))]):Aa Tryz.prog (AB pu dM) (AH []) 3000 60 108 [(true,T4),(false,(.int .i64))] [(false,.bool),(false,(.int .i64))] x=DO x:=by kernel_rfl
def dO:List (FuncId×Sg):=(108,⟨[(true,T4),(false,(.int .i64))],[(false,.bool),(false,(.int .i64))],DO⟩)::dM
theorem dQ:TabOK Tryz.prog (AB pu dO):=AE dN mO
theorem mQ (x:AG [(true,WC)]):Aa Tryz.prog (AB pu dO) (AH []) 3000 60 168 [(true,WC)] [(false,.bool)] x=Eg x:=by kernel_rfl
def dR:List (FuncId×Sg):=(168,⟨[(true,WC)],[(false,.bool)],Eg⟩)::dO
theorem dS:TabOK Tryz.prog (AB pu dR):=AE dQ mQ
def mR:List (Nat×Nat×Nat×An):=[(90,2,11,.loop { keep:=[0,1,7,11,5,9,8,12,6,10],kb:=[0],pl:=[.slot 13 false (.int .i64),.slot 2 false .bool],ex:=[(.ret,[]),(.exit 0,[])],pay:=.unit })]
theorem nl (x:AG [(true,WC)]):Aa Tryz.prog (AB pu dR) (AH mR) 3000 60 90 [(true,WC)] [(false,.bool)] x=Cu x:=by kernel_rfl
def dT:List (FuncId×Sg):=(90,⟨[(true,WC)],[(false,.bool)],Cu⟩)::dR
theorem dU:TabOK Tryz.prog (AB pu dT):=AE dS nl
theorem mS:K4 Tryz.prog (λf => !pu f) 1000 100 176=true:=by kernel_rfl
theorem mT (a:Ty.den JA) (l:List (Ty.den JA)):Aa Tryz.prog (AB pu dT) (AH []) 3000 60 176 [(false,(.sl true JA))] [(false,(.sl true JA))] (a::l)=Bh (a::l):=by kernel_rfl
def dV:List (FuncId×Sg):=(176,⟨[(false,(.sl true JA))],[(false,(.sl true JA))],Bh⟩)::dT
theorem dW:TabOK Tryz.prog (AB pu dV):=Lx (gg:=true) (c:=JA) dU mS rfl mT
theorem mU:Mj Tryz.prog (λf => !pu f) 1000 100 176=true:=by kernel_rfl
theorem mV (a:Ty.den JA) (l:List (Ty.den JA)):N5 Tryz.prog (AB pu dV) (AH []) 3000 60 176 [(false,(.sl true JA))] true JA (a::l)=Bh (a::l):=by kernel_rfl
def dX:List (FuncId×Sg):=(176+Fc,⟨[(false,(.sl true JA))],[(false,(.sl true JA))],Bh⟩)::dV
theorem dY:TabOK Tryz.prog (AB pu dX):=Ly (gg:=true) (c:=JA) dW mU rfl (λa l y h=>Lz h) mV
end Go.Proofs.YthpkjfabdccpdaaGreat.Pt
