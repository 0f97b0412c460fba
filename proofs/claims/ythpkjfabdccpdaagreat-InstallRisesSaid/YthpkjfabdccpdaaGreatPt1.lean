/- The evaluator comes to each of the plain functions. No condition. -/
import Derived.Test.YthpkjfabdccpdaaGreatPt0
set_option linter.all false
namespace Go.Proofs.YthpkjfabdccpdaaGreat.Pt
open Go Go.Proofs.YthpkjfabdccpdaaGreat.Sv Go.Proofs.YthpkjfabdccpdaaGreat.Pl
set_option maxRecDepth 1000000
set_option linter.unusedVariables false
def gy:List (Nat×Nat×Nat×An):=[(187,9,21,.loop { keep:=[0,1,3,7,15,23,11,19,25,13,21,2,8,16,24,12,20,10,18,26,14,22],kb:=[0],pl:=[.slot 9 false (.int .i64),.slot 6 false (.int .i64)],ex:=[(.ret,[]),(.exit 0,[])],pay:=.unit })]
theorem jS (x:AF [(true,T3),(false,(.int .i64)),(false,(.sl false (.int .i64)))]):Aj Tryz.prog (AC pu ZA) (AK gy) 3000 60 187 [(true,T3),(false,(.int .i64)),(false,(.sl false (.int .i64)))] [(false,(.int .i64))] x=Dx x:=by kernel_rfl
def ZC:List (FuncId×Sg):=(187,⟨[(true,T3),(false,(.int .i64)),(false,(.sl false (.int .i64)))],[(false,(.int .i64))],Dx⟩)::ZA
theorem ZD:TabOK Tryz.prog (AC pu ZC):=AG ZB jS
def gz:List (Nat×Nat×Nat×An):=[(112,7,18,.loop { keep:=[0,1,15,11,19,17,13,21,16,12,20,10,18,14],kb:=[0],pl:=[.slot 3 false (.int .i64),.srow 5 false (.int .i64) false,.slot 2 false (.int .i64),.slot 4 false (.int .i64),.slot 6 false (.int .i64)],ex:=[(.ret,[]),(.exit 0,[])],pay:=.unit }),(112,13,35,.loop { keep:=[0,1,7,15,31,23,11,19,35,17,33,25,13,21,37,29,16,32,24,12,20,36,6,10,18,34,26,14,22,30],kb:=[0],pl:=[.slot 3 false (.int .i64),.srow 5 false (.int .i64) false,.slot 2 false (.int .i64),.slot 4 false (.int .i64),.slot 8 false (.int .i64)],ex:=[(.ret,[]),(.exit 2,[])],pay:=.unit })]
theorem jT (x:AF [(true,T4)]):Aj Tryz.prog (AC pu ZC) (AK gz) 3000 60 112 [(true,T4)] [(false,(.int .i64)),(false,(.int .i64)),(false,(.int .i64))] x=Cn x:=by kernel_rfl
def ZE:List (FuncId×Sg):=(112,⟨[(true,T4)],[(false,(.int .i64)),(false,(.int .i64)),(false,(.int .i64))],Cn⟩)::ZC
theorem ZF:TabOK Tryz.prog (AC pu ZE):=AG ZD jT
def g9:List (Nat×Nat×Nat×An):=[(120,6,16,.loop { keep:=[0,1,3,15,11,5,17,13,2,4,16,12,6,10,14],kb:=[0],pl:=[.srow 7 true T3 false,.slot 8 false (.int .i64)],ex:=[(.exit 0,[])],pay:=.unit }),(120,9,31,.loop { keep:=[0,1,3,15,31,23,11,19,27,5,17,33,13,21,29,2,4,8,16,32,12,20,28,6,10,26,14,22,30],kb:=[0],pl:=[.srow 7 true T3 false,.slot 9 false (.int .i64)],ex:=[(.exit 2,[])],pay:=.unit })]
theorem jU (x:AF [(true,T4)]):Aj Tryz.prog (AC pu ZE) (AK g9) 3000 60 120 [(true,T4)] [(false,(.sl true T3)),(false,(.int .i64))] x=EW x:=by kernel_rfl
def ZG:List (FuncId×Sg):=(120,⟨[(true,T4)],[(false,(.sl true T3)),(false,(.int .i64))],EW⟩)::ZE
theorem ZH:TabOK Tryz.prog (AC pu ZG):=AG ZF jU
def hC:List (Nat×Nat×Nat×An):=[(113,4,11,.loop { keep:=[0,1,3,7,11,9,2,4,8,10],kb:=[0],pl:=[.slot 5 false (.int .i64),.slot 6 false (.int .i64)],ex:=[(.exit 0,[])],pay:=.unit })]
theorem jV (x:AF [(true,T4)]):Aj Tryz.prog (AC pu ZG) (AK hC) 3000 60 113 [(true,T4)] [(false,(.int .i64))] x=CG x:=by kernel_rfl
def ZI:List (FuncId×Sg):=(113,⟨[(true,T4)],[(false,(.int .i64))],CG⟩)::ZG
theorem ZJ:TabOK Tryz.prog (AC pu ZI):=AG ZH jV
def hG:List (Nat×Nat×Nat×An):=[(114,3,4,.loop { keep:=[0,1,2],kb:=[0],pl:=[.srow 3 false (.int .i64) false,.slot 4 false (.int .i64)],ex:=[(.exit 0,[])],pay:=.unit })]
theorem jW (x:AF [(true,T4)]):Aj Tryz.prog (AC pu ZI) (AK hG) 3000 60 114 [(true,T4)] [(false,(.sl false (.int .i64)))] x=Co x:=by kernel_rfl
def ZK:List (FuncId×Sg):=(114,⟨[(true,T4)],[(false,(.sl false (.int .i64)))],Co⟩)::ZI
theorem ZL:TabOK Tryz.prog (AC pu ZK):=AG ZJ jW
theorem jX (x:AF [(true,T4),(false,(.int .i64))]):Aj Tryz.prog (AC pu ZK) (AK []) 3000 60 186 [(true,T4),(false,(.int .i64))] [(false,(.int .i64))] x=HI x:=by kernel_rfl
def ZM:List (FuncId×Sg):=(186,⟨[(true,T4),(false,(.int .i64))],[(false,(.int .i64))],HI⟩)::ZK
theorem ZN:TabOK Tryz.prog (AC pu ZM):=AG ZL jX
theorem jY (x:AF [(true,T4),(false,(.int .i64))]):Aj Tryz.prog (AC pu ZM) (AK []) 3000 60 189 [(true,T4),(false,(.int .i64))] [(false,.bool),(false,(.int .i64))] x=GP x:=by kernel_rfl
def ZO:List (FuncId×Sg):=(189,⟨[(true,T4),(false,(.int .i64))],[(false,.bool),(false,(.int .i64))],GP⟩)::ZM
theorem ZP:TabOK Tryz.prog (AC pu ZO):=AG ZN jY
theorem jZ (x:AF [(true,T4),(false,(.int .i64))]):Aj Tryz.prog (AC pu ZO) (AK []) 3000 60 115 [(true,T4),(false,(.int .i64))] [(false,.bool)] x=Bs x:=by kernel_rfl
def ZQ:List (FuncId×Sg):=(115,⟨[(true,T4),(false,(.int .i64))],[(false,.bool)],Bs⟩)::ZO
theorem ZR:TabOK Tryz.prog (AC pu ZQ):=AG ZP jZ
def iA:List (Nat×Nat×Nat×An):=[(231,6,9,.loop { keep:=[0,7,11,9,8,12,10],kb:=[],pl:=[.slot 3 false (.int .i64),.slot 2 false (.int .i64),.slot 4 false (.int .i64)],ex:=[(.ret,[]),(.exit 0,[])],pay:=.unit })]
theorem ja (x:AF [(false,(.sl false (.sl true T2)))]):Aj Tryz.prog (AC pu ZQ) (AK iA) 3000 60 231 [(false,(.sl false (.sl true T2)))] [(false,(.int .i64)),(false,(.int .i64))] x=DS x:=by kernel_rfl
def ZS:List (FuncId×Sg):=(231,⟨[(false,(.sl false (.sl true T2)))],[(false,(.int .i64)),(false,(.int .i64))],DS⟩)::ZQ
theorem ZT:TabOK Tryz.prog (AC pu ZS):=AG ZR ja
def iB:List (Nat×Nat×Nat×An):=[(269,6,8,.loop { keep:=[0,7,5,9,4,8,6],kb:=[],pl:=[.slot 3 false (.int .i64),.slot 2 false (.int .i64)],ex:=[(.ret,[]),(.exit 0,[])],pay:=.unit })]
theorem jc (x:AF [(false,(.sl true T5))]):Aj Tryz.prog (AC pu ZS) (AK iB) 3000 60 269 [(false,(.sl true T5))] [(false,(.int .i64))] x=E1 x:=by kernel_rfl
def ZU:List (FuncId×Sg):=(269,⟨[(false,(.sl true T5))],[(false,(.int .i64))],E1⟩)::ZS
theorem ZV:TabOK Tryz.prog (AC pu ZU):=AG ZT jc
theorem jd (x:AF [(false,(.sl true T5)),(false,(.int .i64)),(false,(.int .i64))]):Aj Tryz.prog (AC pu ZU) (AK []) 3000 60 287 [(false,(.sl true T5)),(false,(.int .i64)),(false,(.int .i64))] [(false,.bool)] x=Ek x:=by kernel_rfl
def ZW:List (FuncId×Sg):=(287,⟨[(false,(.sl true T5)),(false,(.int .i64)),(false,(.int .i64))],[(false,.bool)],Ek⟩)::ZU
theorem ZX:TabOK Tryz.prog (AC pu ZW):=AG ZV jd
theorem je (r:AF [(false,(.sl true T5)),(false,(.int .i64))]->Option (AF [(false,(.int .i64)),(false,(.int .i64))])) (x:AF [(false,(.sl true T5)),(false,(.int .i64))]):Aj Tryz.prog (AC pu ((281,⟨[(false,(.sl true T5)),(false,(.int .i64))],[(false,(.int .i64)),(false,(.int .i64))],r⟩)::ZW)) (AK []) 3000 60 281 [(false,(.sl true T5)),(false,(.int .i64))] [(false,(.int .i64)),(false,(.int .i64))] x=Ap r x:=by kernel_rfl
def ZY:List (FuncId×Sg):=(281,⟨[(false,(.sl true T5)),(false,(.int .i64))],[(false,(.int .i64)),(false,(.int .i64))],Jc (α:=AF [(false,(.sl true T5)),(false,(.int .i64))]) (β:=AF [(false,(.int .i64)),(false,(.int .i64))]) Ap 100⟩)::ZW
theorem ZZ:TabOK Tryz.prog (AC pu ZY):=dy ZX je (by rfl) (by rfl) 100
def iC:List (Nat×Nat×Nat×An):=[(270,3,11,.loop { keep:=[0,3,5,9,2,8,6],kb:=[0],pl:=[.slot 4 false (.int .i64),.box 8 [.ow true T5 false,.ow false (.int .i64) true,.lf (.int .i64)]],ex:=[(.exit 0,[])],pay:=.unit })]
theorem jf (x:AF [(false,(.sl true T5))]):Aj Tryz.prog (AC pu ZY) (AK iC) 3000 60 270 [(false,(.sl true T5))] [(true,T7)] x=Fp x:=by kernel_rfl
def Za:List (FuncId×Sg):=(270,⟨[(false,(.sl true T5))],[(true,T7)],Fp⟩)::ZY
theorem Zb:TabOK Tryz.prog (AC pu Za):=AG ZZ jf
theorem jg (x:AF [(false,(.sl true T5))]):Aj Tryz.prog (AC pu Za) (AK []) 3000 60 250 [(false,(.sl true T5))] [(true,T7),(false,(.int .i64))] x=EA x:=by kernel_rfl
def Zc:List (FuncId×Sg):=(250,⟨[(false,(.sl true T5))],[(true,T7),(false,(.int .i64))],EA⟩)::Za
theorem Zd:TabOK Tryz.prog (AC pu Zc):=AG Zb jg
end Go.Proofs.YthpkjfabdccpdaaGreat.Pt
