/- The evaluator comes to each of the plain functions. No condition. -/
import Derived.Test.YtfilfloanndddaaGreatPt5
set_option linter.all false
namespace Go.Proofs.YtfilfloanndddaaGreat.Pt
open Go Go.Proofs.YtfilfloanndddaaGreat.Sv Go.Proofs.YtfilfloanndddaaGreat.Pl
set_option maxRecDepth 1000000
set_option linter.unusedVariables false
theorem ub (x:AP [(true,Ur),zI]):OE Tryz.prog (Ad pu lm) (Qq []) 3000 60 91 [(true,Ur),zI] [(true,eB),zI] x=Uc x:=by kernel_rfl
def lr:List (FuncId×Sg):=(91,⟨[(true,Ur),zI],[(true,eB),zI],Uc⟩)::lm
theorem lu:TabOK Tryz.prog (Ad pu lr):=R1 lq ub
theorem ud (x:AP [(true,eB)]):OE Tryz.prog (Ad pu lr) (Qq []) 3000 60 93 [(true,eB)] [(false,.bool)] x=TX x:=by kernel_rfl
def lw:List (FuncId×Sg):=(93,⟨[(true,eB)],[(false,.bool)],TX⟩)::lr
theorem lx:TabOK Tryz.prog (Ad pu lw):=R1 lu ud
theorem rN (x:AP [zI,zI]):OE Tryz.prog (Ad pu lw) (Qq []) 3000 60 171 [zI,zI] [zI,zI] x=WU x:=by kernel_rfl
def ly:List (FuncId×Sg):=(171,⟨[zI,zI],[zI,zI],WU⟩)::lw
theorem lz:TabOK Tryz.prog (Ad pu ly):=R1 lx rN
theorem qh (x:AP [(true,eB)]):OE Tryz.prog (Ad pu ly) (Qq []) 3000 60 135 [(true,eB)] [(false,.bool)] x=Tj x:=by kernel_rfl
def l7:List (FuncId×Sg):=(135,⟨[(true,eB)],[(false,.bool)],Tj⟩)::ly
theorem l8:TabOK Tryz.prog (Ad pu l7):=R1 lz qh
theorem rO (x:AP [(true,T4),zI]):OE Tryz.prog (Ad pu l7) (Qq []) 3000 60 174 [(true,T4),zI] [zI] x=V8 x:=by kernel_rfl
def l9:List (FuncId×Sg):=(174,⟨[(true,T4),zI],[zI],V8⟩)::l7
theorem mA:TabOK Tryz.prog (Ad pu l9):=R1 l8 rO
theorem rI (x:AP [(true,T4),zI]):OE Tryz.prog (Ad pu l9) (Qq []) 3000 60 163 [(true,T4),zI] [(false,.bool),zI] x=WT x:=by kernel_rfl
def mB:List (FuncId×Sg):=(163,⟨[(true,T4),zI],[(false,.bool),zI],WT⟩)::l9
theorem mC:TabOK Tryz.prog (Ad pu mB):=R1 mA rI
theorem qi (x:AP [(true,eB)]):OE Tryz.prog (Ad pu mB) (Qq []) 3000 60 136 [(true,eB)] [(false,.bool)] x=Ul x:=by kernel_rfl
def mD:List (FuncId×Sg):=(136,⟨[(true,eB)],[(false,.bool)],Ul⟩)::mB
theorem mE:TabOK Tryz.prog (Ad pu mD):=R1 mC qi
def qG:List (Nat×Nat×Nat×An):=[(92,2,11,.loop { keep:=[0,1,7,11,5,9,8,12,6,10],kb:=[0],pl:=[.slot 13 false zJ,.slot 2 false .bool],ex:=[(.ret,[]),(.exit 0,[])],pay:=.unit })]
theorem uc (x:AP [(true,eB)]):OE Tryz.prog (Ad pu mD) (Qq qG) 3000 60 92 [(true,eB)] [(false,.bool)] x=Tz x:=by kernel_rfl
def mF:List (FuncId×Sg):=(92,⟨[(true,eB)],[(false,.bool)],Tz⟩)::mD
theorem mG:TabOK Tryz.prog (Ad pu mF):=R1 mE uc
def pw:List (Nat×Nat×Nat×An):=[(41,8,21,.loop { keep:=[0,1,15,23,11,19,17,13,21,4,16,24,12,20,10,14,22],kb:=[0],pl:=[.slot 3 false zJ,.slot 5 false .bool,.slot 25 false zJ,.slot 2 false zJ],ex:=[(.ret,[]),(.exit 1,[])],pay:=.unit })]
theorem t9 (x:AP [(true,Ur)]):OE Tryz.prog (Ad pu mF) (Qq pw) 3000 60 41 [(true,Ur)] [zI,zI] x=Te x:=by kernel_rfl
def mH:List (FuncId×Sg):=(41,⟨[(true,Ur)],[zI,zI],Te⟩)::mF
theorem mI:TabOK Tryz.prog (Ad pu mH):=R1 mG t9
theorem sx:L1 Tryz.prog (λf => !pu f) 1000 100 138=true:=by kernel_rfl
theorem qk (a:Ty.den Xj) (l:List (Ty.den Xj)):OE Tryz.prog (Ad pu mH) (Qq []) 3000 60 138 [(false,(.sl true Xj))] [(false,(.sl true Xj))] (a::l)=Tw (a::l):=by kernel_rfl
def mJ:List (FuncId×Sg):=(138,⟨[(false,(.sl true Xj))],[(false,(.sl true Xj))],Tw⟩)::mH
theorem mK:TabOK Tryz.prog (Ad pu mJ):=R2 (gg:=true) (c:=Xj) mI sx rfl qk
theorem tC:Oe Tryz.prog (λf => !pu f) 1000 100 138=true:=by kernel_rfl
theorem tH (a:Ty.den Xj) (l:List (Ty.den Xj)):PZ Tryz.prog (Ad pu mJ) (Qq []) 3000 60 138 [(false,(.sl true Xj))] true Xj (a::l)=Tw (a::l):=by kernel_rfl
def mL:List (FuncId×Sg):=(138+Cq,⟨[(false,(.sl true Xj))],[(false,(.sl true Xj))],Tw⟩)::mJ
theorem mM:TabOK Tryz.prog (Ad pu mL):=R3 (gg:=true) (c:=Xj) mK tC rfl (λa l y h=>Re h) tH
theorem ue (x:AP [(true,Ur),zI,zI]):OE Tryz.prog (Ad pu mL) (Qq []) 3000 60 94 [(true,Ur),zI,zI] [(true,Ur),zI,zI] x=XN x:=by kernel_rfl
def mN:List (FuncId×Sg):=(94,⟨[(true,Ur),zI,zI],[(true,Ur),zI,zI],XN⟩)::mL
theorem mO:TabOK Tryz.prog (Ad pu mN):=R1 mM ue
def oi:List (Nat×Nat×Nat×An):=[(176,5,30,.loop { keep:=[0,1,3,7,15,31,23,11,19,27,9,17,25,13,21,29,2,16,32,24,12,20,28,6,10,18,26,14,22,30],kb:=[0,1,12,10],pl:=[.slot 8 false zJ],ex:=[(.exit 0,[])],pay:=.unit })]
theorem rQ (x:AP [(true,T4),zI,(false,(.sl true T3))]):OE Tryz.prog (Ad pu mN) (Qq oi) 3000 60 176 [(true,T4),zI,(false,(.sl true T3))] [(true,T4)] x=VO x:=by kernel_rfl
def mQ:List (FuncId×Sg):=(176,⟨[(true,T4),zI,(false,(.sl true T3))],[(true,T4)],VO⟩)::mN
theorem mR:TabOK Tryz.prog (Ad pu mQ):=R1 mO rQ
theorem ql (x:AP [(true,T4),zI]):OE Tryz.prog (Ad pu mQ) (Qq []) 3000 60 139 [(true,T4),zI] [(true,T4),(false,(.sl true T3)),zI] x=U8 x:=by kernel_rfl
def mS:List (FuncId×Sg):=(139,⟨[(true,T4),zI],[(true,T4),(false,(.sl true T3)),zI],U8⟩)::mQ
theorem mT:TabOK Tryz.prog (Ad pu mS):=R1 mR ql
end Go.Proofs.YtfilfloanndddaaGreat.Pt
