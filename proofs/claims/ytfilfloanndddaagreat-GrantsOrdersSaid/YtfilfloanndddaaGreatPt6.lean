/- The evaluator comes to each of the plain functions. No condition. -/
import Derived.Test.YtfilfloanndddaaGreatPt5
set_option linter.all false
namespace Go.Proofs.YtfilfloanndddaaGreat.Pt
open Go Go.Proofs.YtfilfloanndddaaGreat.Sv Go.Proofs.YtfilfloanndddaaGreat.Pl
set_option maxRecDepth 1000000
set_option linter.unusedVariables false
theorem qc (x:AP [(true,WR),zI]):OE Tryz.prog (Ad pu jh) (Qq []) 3000 60 91 [(true,WR),zI] [(true,ck),zI] x=Ub x:=by kernel_rfl
def jj:List (FuncId×Sg):=(91,⟨[(true,WR),zI],[(true,ck),zI],Ub⟩)::jh
theorem jk:TabOK Tryz.prog (Ad pu jj):=R1 ji qc
theorem qf (x:AP [(true,ck)]):OE Tryz.prog (Ad pu jj) (Qq []) 3000 60 93 [(true,ck)] [(false,.bool)] x=TX x:=by kernel_rfl
def jl:List (FuncId×Sg):=(93,⟨[(true,ck)],[(false,.bool)],TX⟩)::jj
theorem jm:TabOK Tryz.prog (Ad pu jl):=R1 jk qf
theorem oG (x:AP [zI,zI]):OE Tryz.prog (Ad pu jl) (Qq []) 3000 60 171 [zI,zI] [zI,zI] x=V8 x:=by kernel_rfl
def jo:List (FuncId×Sg):=(171,⟨[zI,zI],[zI,zI],V8⟩)::jl
theorem jp:TabOK Tryz.prog (Ad pu jo):=R1 jm oG
theorem nX (x:AP [(true,ck)]):OE Tryz.prog (Ad pu jo) (Qq []) 3000 60 135 [(true,ck)] [(false,.bool)] x=Ti x:=by kernel_rfl
def jq:List (FuncId×Sg):=(135,⟨[(true,ck)],[(false,.bool)],Ti⟩)::jo
theorem jr:TabOK Tryz.prog (Ad pu jq):=R1 jp nX
theorem oH (x:AP [(true,T4),zI]):OE Tryz.prog (Ad pu jq) (Qq []) 3000 60 174 [(true,T4),zI] [zI] x=Vp x:=by kernel_rfl
def jt:List (FuncId×Sg):=(174,⟨[(true,T4),zI],[zI],Vp⟩)::jq
theorem ju:TabOK Tryz.prog (Ad pu jt):=R1 jr oH
theorem oB (x:AP [(true,T4),zI]):OE Tryz.prog (Ad pu jt) (Qq []) 3000 60 163 [(true,T4),zI] [(false,.bool),zI] x=V7 x:=by kernel_rfl
def jv:List (FuncId×Sg):=(163,⟨[(true,T4),zI],[(false,.bool),zI],V7⟩)::jt
theorem jw:TabOK Tryz.prog (Ad pu jv):=R1 ju oB
theorem nY (x:AP [(true,ck)]):OE Tryz.prog (Ad pu jv) (Qq []) 3000 60 136 [(true,ck)] [(false,.bool)] x=Uj x:=by kernel_rfl
def jx:List (FuncId×Sg):=(136,⟨[(true,ck)],[(false,.bool)],Uj⟩)::jv
theorem jy:TabOK Tryz.prog (Ad pu jx):=R1 jw nY
def nL:List (Nat×Nat×Nat×An):=[(92,2,11,.loop { keep:=[0,1,7,11,5,9,8,12,6,10],kb:=[0],pl:=[.slot 13 false zJ,.slot 2 false .bool],ex:=[(.ret,[]),(.exit 0,[])],pay:=.unit })]
theorem qd (x:AP [(true,ck)]):OE Tryz.prog (Ad pu jx) (Qq nL) 3000 60 92 [(true,ck)] [(false,.bool)] x=Tz x:=by kernel_rfl
def jz:List (FuncId×Sg):=(92,⟨[(true,ck)],[(false,.bool)],Tz⟩)::jx
theorem j0:TabOK Tryz.prog (Ad pu jz):=R1 jy qd
def nE:List (Nat×Nat×Nat×An):=[(41,8,21,.loop { keep:=[0,1,15,23,11,19,17,13,21,4,16,24,12,20,10,14,22],kb:=[0],pl:=[.slot 3 false zJ,.slot 5 false .bool,.slot 25 false zJ,.slot 2 false zJ],ex:=[(.ret,[]),(.exit 1,[])],pay:=.unit })]
theorem qO (x:AP [(true,WR)]):OE Tryz.prog (Ad pu jz) (Qq nE) 3000 60 41 [(true,WR)] [zI,zI] x=Td x:=by kernel_rfl
def j7:List (FuncId×Sg):=(41,⟨[(true,WR)],[zI,zI],Td⟩)::jz
theorem j8:TabOK Tryz.prog (Ad pu j7):=R1 j0 qO
theorem pM:L1 Tryz.prog (λf => !pu f) 1000 100 138=true:=by kernel_rfl
theorem na (a:Ty.den Yh) (l:List (Ty.den Yh)):OE Tryz.prog (Ad pu j7) (Qq []) 3000 60 138 [(false,(.sl true Yh))] [(false,(.sl true Yh))] (a::l)=Ts (a::l):=by kernel_rfl
def j9:List (FuncId×Sg):=(138,⟨[(false,(.sl true Yh))],[(false,(.sl true Yh))],Ts⟩)::j7
theorem kA:TabOK Tryz.prog (Ad pu j9):=R2 (gg:=true) (c:=Yh) j8 pM rfl na
theorem pQ:Oe Tryz.prog (λf => !pu f) 1000 100 138=true:=by kernel_rfl
theorem pV (a:Ty.den Yh) (l:List (Ty.den Yh)):PZ Tryz.prog (Ad pu j9) (Qq []) 3000 60 138 [(false,(.sl true Yh))] true Yh (a::l)=Ts (a::l):=by kernel_rfl
def kB:List (FuncId×Sg):=(138+Cq,⟨[(false,(.sl true Yh))],[(false,(.sl true Yh))],Ts⟩)::j9
theorem kC:TabOK Tryz.prog (Ad pu kB):=R3 (gg:=true) (c:=Yh) kA pQ rfl (λa l y h=>Re h) pV
theorem qg (x:AP [(true,WR),zI,zI]):OE Tryz.prog (Ad pu kB) (Qq []) 3000 60 94 [(true,WR),zI,zI] [(true,WR),zI,zI] x=Wy x:=by kernel_rfl
def kD:List (FuncId×Sg):=(94,⟨[(true,WR),zI,zI],[(true,WR),zI,zI],Wy⟩)::kB
theorem kF:TabOK Tryz.prog (Ad pu kD):=R1 kC qg
def mM:List (Nat×Nat×Nat×An):=[(176,5,30,.loop { keep:=[0,1,3,7,15,31,23,11,19,27,9,17,25,13,21,29,2,16,32,24,12,20,28,6,10,18,26,14,22,30],kb:=[0,1,12,10],pl:=[.slot 8 false zJ],ex:=[(.exit 0,[])],pay:=.unit })]
theorem oI (x:AP [(true,T4),zI,(false,(.sl true T3))]):OE Tryz.prog (Ad pu kD) (Qq mM) 3000 60 176 [(true,T4),zI,(false,(.sl true T3))] [(true,T4)] x=VE x:=by kernel_rfl
def kG:List (FuncId×Sg):=(176,⟨[(true,T4),zI,(false,(.sl true T3))],[(true,T4)],VE⟩)::kD
theorem kH:TabOK Tryz.prog (Ad pu kG):=R1 kF oI
theorem ng (x:AP [(true,T4),zI]):OE Tryz.prog (Ad pu kG) (Qq []) 3000 60 139 [(true,T4),zI] [(true,T4),(false,(.sl true T3)),zI] x=U3 x:=by kernel_rfl
def kI:List (FuncId×Sg):=(139,⟨[(true,T4),zI],[(true,T4),(false,(.sl true T3)),zI],U3⟩)::kG
theorem kJ:TabOK Tryz.prog (Ad pu kI):=R1 kH ng
end Go.Proofs.YtfilfloanndddaaGreat.Pt
