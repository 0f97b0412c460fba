/- The evaluator comes to each of the plain functions. No condition. -/
import Derived.Test.YthpkjfabdccpdaaGreatPt5
set_option linter.all false
namespace Go.Proofs.YthpkjfabdccpdaaGreat.Pt
open Go Go.Proofs.YthpkjfabdccpdaaGreat.Sv Go.Proofs.YthpkjfabdccpdaaGreat.Pl
set_option maxRecDepth 1000000
set_option linter.unusedVariables false
theorem kz (x:AF [(false,(.sl true T2)),(false,(.sl true T2))]):Aj Tryz.prog (AC pu bo) (AK []) 3000 60 222 [(false,(.sl true T2)),(false,(.sl true T2))] [(false,.bool)] x=Bd x:=by kernel_rfl
def bq:List (FuncId×Sg):=(222,⟨[(false,(.sl true T2)),(false,(.sl true T2))],[(false,.bool)],Bd⟩)::bo
theorem bu:TabOK Tryz.prog (AC pu bq):=AG bp kz
def ib:List (Nat×Nat×Nat×An):=[(221,4,81,.loop { keep:=[0,1,15,11,13,2,16,12,10,14],kb:=[0,1,7,8],pl:=[.slot 17 false (.int .i64),.slot 6 false .bool],ex:=[(.ret,[]),(.exit 0,[])],pay:=.unit })]
theorem lA (x:AF [(true,Oy),(true,Oy)]):Aj Tryz.prog (AC pu bq) (AK ib) 3000 60 183 [(true,Oy),(true,Oy)] [(false,.bool)] x=DD x:=by kernel_rfl
def bw:List (FuncId×Sg):=(183,⟨[(true,Oy),(true,Oy)],[(false,.bool)],DD⟩)::bq
theorem bx:TabOK Tryz.prog (AC pu bw):=AG bu lA
def ic:List (Nat×Nat×Nat×An):=[(219,1,52,.loop { keep:=[0,1,7,5,6],kb:=[0,47,35,46],pl:=[.slot 8 false (.int .i64),.box 43 [.ow false (.int .i64) false]],ex:=[(.exit 0,[(47,0,none)])],pay:=.unit }),(107,10,59,.loop { keep:=[0,1,15,31,47,23,39,19,35,27,43,17,33,25,41,21,37,29,45,4,16,32,40,20,36,28,44,18,34,26,42,14,22,38,30,46],kb:=[0,47,35,43,52],pl:=[.slot 3 false (.int .i64),.slot 2 false (.int .i64),.slot 48 false (.int .i64)],ex:=[(.ret,[(47,3,none)]),(.exit 1,[(47,3,none)])],pay:=.unit })]
theorem lB (x:AF [(true,Gw)]):Aj Tryz.prog (AC pu bw) (AK ic) 3000 60 107 [(true,Gw)] [(false,(.int .i64)),(false,(.int .i64))] x=DE x:=by kernel_rfl
def bz:List (FuncId×Sg):=(107,⟨[(true,Gw)],[(false,(.int .i64)),(false,(.int .i64))],DE⟩)::bw
theorem cA:TabOK Tryz.prog (AC pu bz):=AG bx lB
def ie:List (Nat×Nat×Nat×An):=[(238,2,31,.loop { keep:=[0,1,7,6],kb:=[0,1],pl:=[.slot 4 false (.int .i64),.slot 8 false (.int .i64)],ex:=[(.ret,[]),(.exit 0,[])],pay:=.unit })]
theorem lC (x:AF [(true,Gw),(false,(.int .i64))]):Aj Tryz.prog (AC pu bz) (AK ie) 3000 60 151 [(true,Gw),(false,(.int .i64))] [(false,(.int .i64)),(false,(.int .i64))] x=FN x:=by kernel_rfl
def cB:List (FuncId×Sg):=(151,⟨[(true,Gw),(false,(.int .i64))],[(false,(.int .i64)),(false,(.int .i64))],FN⟩)::bz
theorem cC:TabOK Tryz.prog (AC pu cB):=AG cA lC
theorem mB (x:AF [(true,Gw),(false,(.int .i64))]):Aj Tryz.prog (AC pu cB) (AK []) 3000 60 88 [(true,Gw),(false,(.int .i64))] [(true,Vq),(false,(.int .i64))] x=Cj x:=by kernel_rfl
def cD:List (FuncId×Sg):=(88,⟨[(true,Gw),(false,(.int .i64))],[(true,Vq),(false,(.int .i64))],Cj⟩)::cB
theorem cE:TabOK Tryz.prog (AC pu cD):=AG cC mB
theorem mC (x:AF [(true,Vq)]):Aj Tryz.prog (AC pu cD) (AK []) 3000 60 89 [(true,Vq)] [(false,.bool)] x=A5 x:=by kernel_rfl
def cF:List (FuncId×Sg):=(89,⟨[(true,Vq)],[(false,.bool)],A5⟩)::cD
theorem cG:TabOK Tryz.prog (AC pu cF):=AG cE mC
theorem mD (x:AF [(false,(.int .i64)),(false,(.int .i64))]):Aj Tryz.prog (AC pu cF) (AK []) 3000 60 44 [(false,(.int .i64)),(false,(.int .i64))] [(false,(.int .i64)),(false,(.int .i64))] x=DU x:=by kernel_rfl
def cI:List (FuncId×Sg):=(44,⟨[(false,(.int .i64)),(false,(.int .i64))],[(false,(.int .i64)),(false,(.int .i64))],DU⟩)::cF
theorem cJ:TabOK Tryz.prog (AC pu cI):=AG cG mD
theorem mE (x:AF [(true,Vq)]):Aj Tryz.prog (AC pu cI) (AK []) 3000 60 92 [(true,Vq)] [(false,.bool)] x=BE x:=by kernel_rfl
def cK:List (FuncId×Sg):=(92,⟨[(true,Vq)],[(false,.bool)],BE⟩)::cI
theorem cL:TabOK Tryz.prog (AC pu cK):=AG cJ mE
theorem lD (x:AF [(true,T4),(false,(.int .i64))]):Aj Tryz.prog (AC pu cK) (AK []) 3000 60 169 [(true,T4),(false,(.int .i64))] [(false,(.int .i64))] x=EY x:=by kernel_rfl
def cM:List (FuncId×Sg):=(169,⟨[(true,T4),(false,(.int .i64))],[(false,(.int .i64))],EY⟩)::cK
theorem cN:TabOK Tryz.prog (AC pu cM):=AG cL lD
theorem lE (x:AF [(true,T4),(false,(.int .i64))]):Aj Tryz.prog (AC pu cM) (AK []) 3000 60 108 [(true,T4),(false,(.int .i64))] [(false,.bool),(false,(.int .i64))] x=E6 x:=by kernel_rfl
def cO:List (FuncId×Sg):=(108,⟨[(true,T4),(false,(.int .i64))],[(false,.bool),(false,(.int .i64))],E6⟩)::cM
theorem cQ:TabOK Tryz.prog (AC pu cO):=AG cN lE
theorem lF (x:AF [(true,Vq)]):Aj Tryz.prog (AC pu cO) (AK []) 3000 60 168 [(true,Vq)] [(false,.bool)] x=CT x:=by kernel_rfl
def cR:List (FuncId×Sg):=(168,⟨[(true,Vq)],[(false,.bool)],CT⟩)::cO
theorem cS:TabOK Tryz.prog (AC pu cR):=AG cQ lF
def lG:List (Nat×Nat×Nat×An):=[(90,2,11,.loop { keep:=[0,1,7,11,5,9,8,12,6,10],kb:=[0],pl:=[.slot 13 false (.int .i64),.slot 2 false .bool],ex:=[(.ret,[]),(.exit 0,[])],pay:=.unit })]
theorem mF (x:AF [(true,Vq)]):Aj Tryz.prog (AC pu cR) (AK lG) 3000 60 90 [(true,Vq)] [(false,.bool)] x=Be x:=by kernel_rfl
def cU:List (FuncId×Sg):=(90,⟨[(true,Vq)],[(false,.bool)],Be⟩)::cR
theorem cV:TabOK Tryz.prog (AC pu cU):=AG cS mF
theorem lH:K9 Tryz.prog (λf => !pu f) 1000 100 176=true:=by kernel_rfl
theorem lI (a:Ty.den MI) (l:List (Ty.den MI)):Aj Tryz.prog (AC pu cU) (AK []) 3000 60 176 [(false,(.sl true MI))] [(false,(.sl true MI))] (a::l)=Bf (a::l):=by kernel_rfl
def cW:List (FuncId×Sg):=(176,⟨[(false,(.sl true MI))],[(false,(.sl true MI))],Bf⟩)::cU
theorem cX:TabOK Tryz.prog (AC pu cW):=L0 (gg:=true) (c:=MI) cV lH rfl lI
theorem lJ:Mt Tryz.prog (λf => !pu f) 1000 100 176=true:=by kernel_rfl
theorem lK (a:Ty.den MI) (l:List (Ty.den MI)):OF Tryz.prog (AC pu cW) (AK []) 3000 60 176 [(false,(.sl true MI))] true MI (a::l)=Bf (a::l):=by kernel_rfl
def cY:List (FuncId×Sg):=(176+FP,⟨[(false,(.sl true MI))],[(false,(.sl true MI))],Bf⟩)::cW
theorem cZ:TabOK Tryz.prog (AC pu cY):=L1 (gg:=true) (c:=MI) cX lJ rfl (λa l y h=>L3 h) lK
end Go.Proofs.YthpkjfabdccpdaaGreat.Pt
