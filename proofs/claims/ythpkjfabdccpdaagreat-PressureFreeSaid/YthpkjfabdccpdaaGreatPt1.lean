/- The evaluator comes to each of the plain functions. No condition. -/
import Derived.Test.YthpkjfabdccpdaaGreatPt0
set_option linter.all false
namespace Go.Proofs.YthpkjfabdccpdaaGreat.Pt
open Go Go.Proofs.YthpkjfabdccpdaaGreat.Sv Go.Proofs.YthpkjfabdccpdaaGreat.Pl
set_option maxRecDepth 1000000
set_option linter.unusedVariables false
def jp:List (Nat×Nat×Nat×An):=[(184,4,8,.loop { keep:=[0,7,11,9,8,10],kb:=[],pl:=[.slot 3 false zJ,.slot 2 false zJ,.slot 12 false zJ],ex:=[(.ret,[]),(.exit 0,[])],pay:=.unit })]
theorem lu (x:AG [(false,(.sl true T2))]):Ac Tryz.prog (AC pu aJ) (AI jp) 3000 60 184 [(false,(.sl true T2))] [zI,zI] x=BB x:=by kernel_rfl
def aL:List (FuncId×Sg):=(184,⟨[(false,(.sl true T2))],[zI,zI],BB⟩)::aJ
theorem aM:TabOK Tryz.prog (AC pu aL):=AF aK lu
theorem lw (x:AG [(true,T3)]):Ac Tryz.prog (AC pu aL) (AI []) 3000 60 109 [(true,T3)] [zI,zI] x=Ew x:=by kernel_rfl
def aN:List (FuncId×Sg):=(109,⟨[(true,T3)],[zI,zI],Ew⟩)::aL
theorem aO:TabOK Tryz.prog (AC pu aN):=AF aM lw
theorem lx (x:AG [(true,T3),zI]):Ac Tryz.prog (AC pu aN) (AI []) 3000 60 172 [(true,T3),zI] [zI] x=Cs x:=by kernel_rfl
def aQ:List (FuncId×Sg):=(172,⟨[(true,T3),zI],[zI],Cs⟩)::aN
theorem aR:TabOK Tryz.prog (AC pu aQ):=AF aO lx
def jq:List (Nat×Nat×Nat×An):=[(122,8,26,.loop { keep:=[0,1,15,23,11,19,27,5,17,25,13,21,29,16,24,12,20,28,18,26,14,22],kb:=[0],pl:=[.slot 3 false zJ,.slot 2 false zJ,.slot 4 false zJ,.slot 30 false zJ,.map 18 zJ false .bool],ex:=[(.exit 1,[])],pay:=.unit }),(122,14,44,.loop { keep:=[0,1,7,15,31,23,39,11,19,35,27,5,17,33,25,41,13,21,37,29,2,16,32,24,40,12,20,36,28,6,18,34,26,42,14,22,38,30],kb:=[0,30],pl:=[.slot 3 false zJ,.slot 43 false zJ,.slot 4 false zJ,.map 18 zJ false .bool],ex:=[(.exit 1,[]),(.exit 3,[])],pay:=.unit })]
theorem ly (x:AG [(true,T4)]):Ac Tryz.prog (AC pu aQ) (AI jq) 3000 60 122 [(true,T4)] [zI,zI,zI] x=C5 x:=by kernel_rfl
def aS:List (FuncId×Sg):=(122,⟨[(true,T4)],[zI,zI,zI],C5⟩)::aQ
theorem aT:TabOK Tryz.prog (AC pu aS):=AF aR ly
def jr:List (Nat×Nat×Nat×An):=[(180,2,6,.loop { keep:=[0,1,7,9,8],kb:=[0],pl:=[.slot 2 false zJ,.slot 10 false zJ],ex:=[(.exit 0,[])],pay:=.unit }),(180,5,15,.loop { keep:=[0,1,7,15,11,9,13,4,8,16,12,10,14],kb:=[0,9],pl:=[.slot 17 false zJ,.slot 2 false zJ],ex:=[(.exit 2,[])],pay:=.unit })]
theorem lz (x:AG [(true,T4)]):Ac Tryz.prog (AC pu aS) (AI jr) 3000 60 180 [(true,T4)] [zI] x=D9 x:=by kernel_rfl
def aU:List (FuncId×Sg):=(180,⟨[(true,T4)],[zI],D9⟩)::aS
theorem aV:TabOK Tryz.prog (AC pu aU):=AF aT lz
theorem l7 (x:AG [(true,T4),zI]):Ac Tryz.prog (AC pu aU) (AI []) 3000 60 181 [(true,T4),zI] [(false,.bool)] x=Ct x:=by kernel_rfl
def aW:List (FuncId×Sg):=(181,⟨[(true,T4),zI],[(false,.bool)],Ct⟩)::aU
theorem aX:TabOK Tryz.prog (AC pu aW):=AF aV l7
def jt:List (Nat×Nat×Nat×An):=[(254,6,13,.loop { keep:=[0,15,11,9,17,13,8,16,12,10,14],kb:=[],pl:=[.slot 3 false zJ,.slot 2 false zJ,.slot 18 false zJ],ex:=[(.ret,[]),(.exit 1,[])],pay:=.unit })]
theorem l8 (x:AG [(false,(.sl false (.sl true T2)))]):Ac Tryz.prog (AC pu aW) (AI jt) 3000 60 254 [(false,(.sl false (.sl true T2)))] [zI,zI] x=DO x:=by kernel_rfl
def aY:List (FuncId×Sg):=(254,⟨[(false,(.sl false (.sl true T2)))],[zI,zI],DO⟩)::aW
theorem aZ:TabOK Tryz.prog (AC pu aY):=AF aX l8
theorem l9 (x:AG [(false,.bool)]):Ac Tryz.prog (AC pu aY) (AI []) 3000 60 243 [(false,.bool)] [(true,O0)] x=CZ x:=by kernel_rfl
def aa:List (FuncId×Sg):=(243,⟨[(false,.bool)],[(true,O0)],CZ⟩)::aY
theorem ab:TabOK Tryz.prog (AC pu aa):=AF aZ l9
theorem mA:Mq Tryz.prog (λf => !pu f) 1000 100 268=true:=by kernel_rfl
theorem mB (a:Ty.den (.sl true T2)) (l:List (Ty.den (.sl true T2))):Ac Tryz.prog (AC pu aa) (AI []) 3000 60 268 [(false,(.sl false (.sl true T2)))] [(false,(.sl false (.sl true T2)))] (a::l)=Ai (a::l):=by kernel_rfl
def ac:List (FuncId×Sg):=(268,⟨[(false,(.sl false (.sl true T2)))],[(false,(.sl false (.sl true T2)))],Ai⟩)::aa
theorem ad:TabOK Tryz.prog (AC pu ac):=OZ (gg:=false) (c:=(.sl true T2)) ab mA rfl mB
theorem mC:Oa Tryz.prog (λf => !pu f) 1000 100 268=true:=by kernel_rfl
theorem mD (a:Ty.den (.sl true T2)) (l:List (Ty.den (.sl true T2))):Pn Tryz.prog (AC pu ac) (AI []) 3000 60 268 [(false,(.sl false (.sl true T2)))] false (.sl true T2) (a::l)=Ai (a::l):=by kernel_rfl
def ae:List (FuncId×Sg):=(268+G2,⟨[(false,(.sl false (.sl true T2)))],[(false,(.sl false (.sl true T2)))],Ai⟩)::ac
theorem af:TabOK Tryz.prog (AC pu ae):=Ob (gg:=false) (c:=(.sl true T2)) ad mC rfl (λa l y h=>Oc h) mD
theorem mE (x:AG [(false,(.sl true T2)),zI]):Ac Tryz.prog (AC pu ae) (AI []) 3000 60 272 [(false,(.sl true T2)),zI] [(true,T5)] x=BE x:=by kernel_rfl
def ah:List (FuncId×Sg):=(272,⟨[(false,(.sl true T2)),zI],[(true,T5)],BE⟩)::ae
theorem ai:TabOK Tryz.prog (AC pu ah):=AF af mE
theorem mF (x:AG [(true,T5)]):Ac Tryz.prog (AC pu ah) (AI []) 3000 60 289 [(true,T5)] [(false,.bool)] x=DG x:=by kernel_rfl
def aj:List (FuncId×Sg):=(289,⟨[(true,T5)],[(false,.bool)],DG⟩)::ah
theorem ak:TabOK Tryz.prog (AC pu aj):=AF ai mF
def ju:List (Nat×Nat×Nat×An):=[(291,2,22,.loop { keep:=[0,1,7,6],kb:=[],pl:=[.slot 4 false zJ,.slot 8 false zJ],ex:=[(.ret,[]),(.exit 0,[])],pay:=.unit })]
theorem mG (x:AG [(false,(.sl true T5))]):Ac Tryz.prog (AC pu aj) (AI ju) 3000 60 282 [(false,(.sl true T5))] [zI] x=DQ x:=by kernel_rfl
def al:List (FuncId×Sg):=(282,⟨[(false,(.sl true T5))],[zI],DQ⟩)::aj
theorem am:TabOK Tryz.prog (AC pu al):=AF ak mG
theorem mH:Mq Tryz.prog (λf => !pu f) 1000 100 285=true:=by kernel_rfl
theorem mI (a:Ty.den T5) (l:List (Ty.den T5)):Ac Tryz.prog (AC pu al) (AI []) 3000 60 285 [(false,(.sl true T5))] [(false,(.sl true T5))] (a::l)=Aj (a::l):=by kernel_rfl
def an:List (FuncId×Sg):=(285,⟨[(false,(.sl true T5))],[(false,(.sl true T5))],Aj⟩)::al
theorem ao:TabOK Tryz.prog (AC pu an):=OZ (gg:=true) (c:=T5) am mH rfl mI
end Go.Proofs.YthpkjfabdccpdaaGreat.Pt
