/- The evaluator comes to each of the plain functions. No condition. -/
import Derived.Test.YtfilfloanndddaaGreatPt5
set_option linter.all false
namespace Go.Proofs.YtfilfloanndddaaGreat.Pt
open Go Go.Proofs.YtfilfloanndddaaGreat.Sv Go.Proofs.YtfilfloanndddaaGreat.Pl
set_option maxRecDepth 1000000
set_option linter.unusedVariables false
theorem tM (x:AP [(true,Vt),zI]):OE Tryz.prog (Ad pu ku) (Qq []) 3000 60 91 [(true,Vt),zI] [(true,di),zI] x=Ud x:=by kernel_rfl
def ky:List (FuncId×Sg):=(91,⟨[(true,Vt),zI],[(true,di),zI],Ud⟩)::ku
theorem kz:TabOK Tryz.prog (Ad pu ky):=R1 kw tM
theorem tO (x:AP [(true,di)]):OE Tryz.prog (Ad pu ky) (Qq []) 3000 60 93 [(true,di)] [(false,.bool)] x=Ta x:=by kernel_rfl
def lA:List (FuncId×Sg):=(93,⟨[(true,di)],[(false,.bool)],Ta⟩)::ky
theorem lB:TabOK Tryz.prog (Ad pu lA):=R1 kz tO
theorem qP (x:AP [zI,zI]):OE Tryz.prog (Ad pu lA) (Qq []) 3000 60 171 [zI,zI] [zI,zI] x=WO x:=by kernel_rfl
def lC:List (FuncId×Sg):=(171,⟨[zI,zI],[zI,zI],WO⟩)::lA
theorem lD:TabOK Tryz.prog (Ad pu lC):=R1 lB qP
theorem pZ (x:AP [(true,di)]):OE Tryz.prog (Ad pu lC) (Qq []) 3000 60 135 [(true,di)] [(false,.bool)] x=Tk x:=by kernel_rfl
def lE:List (FuncId×Sg):=(135,⟨[(true,di)],[(false,.bool)],Tk⟩)::lC
theorem lF:TabOK Tryz.prog (Ad pu lE):=R1 lD pZ
theorem qQ (x:AP [(true,T4),zI]):OE Tryz.prog (Ad pu lE) (Qq []) 3000 60 174 [(true,T4),zI] [zI] x=V2 x:=by kernel_rfl
def lG:List (FuncId×Sg):=(174,⟨[(true,T4),zI],[zI],V2⟩)::lE
theorem lH:TabOK Tryz.prog (Ad pu lG):=R1 lF qQ
theorem qK (x:AP [(true,T4),zI]):OE Tryz.prog (Ad pu lG) (Qq []) 3000 60 163 [(true,T4),zI] [(false,.bool),zI] x=WN x:=by kernel_rfl
def lI:List (FuncId×Sg):=(163,⟨[(true,T4),zI],[(false,.bool),zI],WN⟩)::lG
theorem lJ:TabOK Tryz.prog (Ad pu lI):=R1 lH qK
theorem pf (x:AP [(true,di)]):OE Tryz.prog (Ad pu lI) (Qq []) 3000 60 136 [(true,di)] [(false,.bool)] x=Ul x:=by kernel_rfl
def lK:List (FuncId×Sg):=(136,⟨[(true,di)],[(false,.bool)],Ul⟩)::lI
theorem lL:TabOK Tryz.prog (Ad pu lK):=R1 lJ pf
def pF:List (Nat×Nat×Nat×An):=[(92,2,11,.loop { keep:=[0,1,7,11,5,9,8,12,6,10],kb:=[0],pl:=[.slot 13 false zJ,.slot 2 false .bool],ex:=[(.ret,[]),(.exit 0,[])],pay:=.unit })]
theorem tN (x:AP [(true,di)]):OE Tryz.prog (Ad pu lK) (Qq pF) 3000 60 92 [(true,di)] [(false,.bool)] x=Tz x:=by kernel_rfl
def lM:List (FuncId×Sg):=(92,⟨[(true,di)],[(false,.bool)],Tz⟩)::lK
theorem lN:TabOK Tryz.prog (Ad pu lM):=R1 lL tN
def o6:List (Nat×Nat×Nat×An):=[(41,8,21,.loop { keep:=[0,1,15,23,11,19,17,13,21,4,16,24,12,20,10,14,22],kb:=[0],pl:=[.slot 3 false zJ,.slot 5 false .bool,.slot 25 false zJ,.slot 2 false zJ],ex:=[(.ret,[]),(.exit 1,[])],pay:=.unit })]
theorem sq (x:AP [(true,Vt)]):OE Tryz.prog (Ad pu lM) (Qq o6) 3000 60 41 [(true,Vt)] [zI,zI] x=TV x:=by kernel_rfl
def lO:List (FuncId×Sg):=(41,⟨[(true,Vt)],[zI,zI],TV⟩)::lM
theorem lQ:TabOK Tryz.prog (Ad pu lO):=R1 lN sq
theorem rU:L1 Tryz.prog (λf => !pu f) 1000 100 138=true:=by kernel_rfl
theorem pk (a:Ty.den Yn) (l:List (Ty.den Yn)):OE Tryz.prog (Ad pu lO) (Qq []) 3000 60 138 [(false,(.sl true Yn))] [(false,(.sl true Yn))] (a::l)=Tv (a::l):=by kernel_rfl
def lR:List (FuncId×Sg):=(138,⟨[(false,(.sl true Yn))],[(false,(.sl true Yn))],Tv⟩)::lO
theorem lS:TabOK Tryz.prog (Ad pu lR):=R2 (gg:=true) (c:=Yn) lQ rU rfl pk
theorem ri:Oe Tryz.prog (λf => !pu f) 1000 100 138=true:=by kernel_rfl
theorem rq (a:Ty.den Yn) (l:List (Ty.den Yn)):PZ Tryz.prog (Ad pu lR) (Qq []) 3000 60 138 [(false,(.sl true Yn))] true Yn (a::l)=Tv (a::l):=by kernel_rfl
def lT:List (FuncId×Sg):=(138+Cq,⟨[(false,(.sl true Yn))],[(false,(.sl true Yn))],Tv⟩)::lR
theorem lU:TabOK Tryz.prog (Ad pu lT):=R3 (gg:=true) (c:=Yn) lS ri rfl (λa l y h=>Re h) rq
theorem tQ (x:AP [(true,Vt),zI,zI]):OE Tryz.prog (Ad pu lT) (Qq []) 3000 60 94 [(true,Vt),zI,zI] [(true,Vt),zI,zI] x=XE x:=by kernel_rfl
def lV:List (FuncId×Sg):=(94,⟨[(true,Vt),zI,zI],[(true,Vt),zI,zI],XE⟩)::lT
theorem lW:TabOK Tryz.prog (Ad pu lV):=R1 lU tQ
def oA:List (Nat×Nat×Nat×An):=[(176,5,30,.loop { keep:=[0,1,3,7,15,31,23,11,19,27,9,17,25,13,21,29,2,16,32,24,12,20,28,6,10,18,26,14,22,30],kb:=[0,1,12,10],pl:=[.slot 8 false zJ],ex:=[(.exit 0,[])],pay:=.unit })]
theorem qR (x:AP [(true,T4),zI,(false,(.sl true T3))]):OE Tryz.prog (Ad pu lV) (Qq oA) 3000 60 176 [(true,T4),zI,(false,(.sl true T3))] [(true,T4)] x=VJ x:=by kernel_rfl
def lX:List (FuncId×Sg):=(176,⟨[(true,T4),zI,(false,(.sl true T3))],[(true,T4)],VJ⟩)::lV
theorem lY:TabOK Tryz.prog (Ad pu lX):=R1 lW qR
theorem pn (x:AP [(true,T4),zI]):OE Tryz.prog (Ad pu lX) (Qq []) 3000 60 139 [(true,T4),zI] [(true,T4),(false,(.sl true T3)),zI] x=U5 x:=by kernel_rfl
def lZ:List (FuncId×Sg):=(139,⟨[(true,T4),zI],[(true,T4),(false,(.sl true T3)),zI],U5⟩)::lX
theorem ld:TabOK Tryz.prog (Ad pu lZ):=R1 lY pn
end Go.Proofs.YtfilfloanndddaaGreat.Pt
