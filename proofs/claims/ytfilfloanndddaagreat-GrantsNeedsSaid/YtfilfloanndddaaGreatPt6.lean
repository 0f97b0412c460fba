/- The evaluator comes to each of the plain functions. No condition. -/
import Derived.Test.YtfilfloanndddaaGreatPt5
set_option linter.all false
namespace Go.Proofs.YtfilfloanndddaaGreat.Pt
open Go Go.Proofs.YtfilfloanndddaaGreat.Sv Go.Proofs.YtfilfloanndddaaGreat.Pl
set_option maxRecDepth 1000000
set_option linter.unusedVariables false
theorem tO (x:AP [(true,Ub),zI]):OE Tryz.prog (Ad pu kg) (Qq []) 3000 60 91 [(true,Ub),zI] [(true,dK),zI] x=Uc x:=by kernel_rfl
def ki:List (FuncId×Sg):=(91,⟨[(true,Ub),zI],[(true,dK),zI],Uc⟩)::kg
theorem kj:TabOK Tryz.prog (Ad pu ki):=R1 kh tO
theorem tR (x:AP [(true,dK)]):OE Tryz.prog (Ad pu ki) (Qq []) 3000 60 93 [(true,dK)] [(false,.bool)] x=TX x:=by kernel_rfl
def kl:List (FuncId×Sg):=(93,⟨[(true,dK)],[(false,.bool)],TX⟩)::ki
theorem km:TabOK Tryz.prog (Ad pu kl):=R1 kj tR
theorem qI (x:AP [zI,zI]):OE Tryz.prog (Ad pu kl) (Qq []) 3000 60 171 [zI,zI] [zI,zI] x=WO x:=by kernel_rfl
def kn:List (FuncId×Sg):=(171,⟨[zI,zI],[zI,zI],WO⟩)::kl
theorem ko:TabOK Tryz.prog (Ad pu kn):=R1 km qI
theorem pQ (x:AP [(true,dK)]):OE Tryz.prog (Ad pu kn) (Qq []) 3000 60 135 [(true,dK)] [(false,.bool)] x=Th x:=by kernel_rfl
def kq:List (FuncId×Sg):=(135,⟨[(true,dK)],[(false,.bool)],Th⟩)::kn
theorem kr:TabOK Tryz.prog (Ad pu kq):=R1 ko pQ
theorem qJ (x:AP [(true,T4),zI]):OE Tryz.prog (Ad pu kq) (Qq []) 3000 60 174 [(true,T4),zI] [zI] x=Vy x:=by kernel_rfl
def ks:List (FuncId×Sg):=(174,⟨[(true,T4),zI],[zI],Vy⟩)::kq
theorem ku:TabOK Tryz.prog (Ad pu ks):=R1 kr qJ
theorem qD (x:AP [(true,T4),zI]):OE Tryz.prog (Ad pu ks) (Qq []) 3000 60 163 [(true,T4),zI] [(false,.bool),zI] x=WN x:=by kernel_rfl
def kw:List (FuncId×Sg):=(163,⟨[(true,T4),zI],[(false,.bool),zI],WN⟩)::ks
theorem ky:TabOK Tryz.prog (Ad pu kw):=R1 ku qD
theorem pR (x:AP [(true,dK)]):OE Tryz.prog (Ad pu kw) (Qq []) 3000 60 136 [(true,dK)] [(false,.bool)] x=Ul x:=by kernel_rfl
def kz:List (FuncId×Sg):=(136,⟨[(true,dK)],[(false,.bool)],Ul⟩)::kw
theorem lA:TabOK Tryz.prog (Ad pu kz):=R1 ky pR
def ov:List (Nat×Nat×Nat×An):=[(92,2,11,.loop { keep:=[0,1,7,11,5,9,8,12,6,10],kb:=[0],pl:=[.slot 13 false zJ,.slot 2 false .bool],ex:=[(.ret,[]),(.exit 0,[])],pay:=.unit })]
theorem tQ (x:AP [(true,dK)]):OE Tryz.prog (Ad pu kz) (Qq ov) 3000 60 92 [(true,dK)] [(false,.bool)] x=Tv x:=by kernel_rfl
def lB:List (FuncId×Sg):=(92,⟨[(true,dK)],[(false,.bool)],Tv⟩)::kz
theorem lC:TabOK Tryz.prog (Ad pu lB):=R1 lA tQ
def oa:List (Nat×Nat×Nat×An):=[(41,8,21,.loop { keep:=[0,1,15,23,11,19,17,13,21,4,16,24,12,20,10,14,22],kb:=[0],pl:=[.slot 3 false zJ,.slot 5 false .bool,.slot 25 false zJ,.slot 2 false zJ],ex:=[(.ret,[]),(.exit 1,[])],pay:=.unit })]
theorem se (x:AP [(true,Ub)]):OE Tryz.prog (Ad pu lB) (Qq oa) 3000 60 41 [(true,Ub)] [zI,zI] x=UE x:=by kernel_rfl
def lD:List (FuncId×Sg):=(41,⟨[(true,Ub)],[zI,zI],UE⟩)::lB
theorem lE:TabOK Tryz.prog (Ad pu lD):=R1 lC se
theorem rM:L1 Tryz.prog (λf => !pu f) 1000 100 138=true:=by kernel_rfl
theorem pU (a:Ty.den Xw) (l:List (Ty.den Xw)):OE Tryz.prog (Ad pu lD) (Qq []) 3000 60 138 [(false,(.sl true Xw))] [(false,(.sl true Xw))] (a::l)=Ts (a::l):=by kernel_rfl
def lF:List (FuncId×Sg):=(138,⟨[(false,(.sl true Xw))],[(false,(.sl true Xw))],Ts⟩)::lD
theorem lG:TabOK Tryz.prog (Ad pu lF):=R2 (gg:=true) (c:=Xw) lE rM rfl pU
theorem rS:Oe Tryz.prog (λf => !pu f) 1000 100 138=true:=by kernel_rfl
theorem rZ (a:Ty.den Xw) (l:List (Ty.den Xw)):PZ Tryz.prog (Ad pu lF) (Qq []) 3000 60 138 [(false,(.sl true Xw))] true Xw (a::l)=Ts (a::l):=by kernel_rfl
def lH:List (FuncId×Sg):=(138+Cq,⟨[(false,(.sl true Xw))],[(false,(.sl true Xw))],Ts⟩)::lF
theorem lI:TabOK Tryz.prog (Ad pu lH):=R3 (gg:=true) (c:=Xw) lG rS rfl (λa l y h=>Re h) rZ
theorem tT (x:AP [(true,Ub),zI,zI]):OE Tryz.prog (Ad pu lH) (Qq []) 3000 60 94 [(true,Ub),zI,zI] [(true,Ub),zI,zI] x=XE x:=by kernel_rfl
def lJ:List (FuncId×Sg):=(94,⟨[(true,Ub),zI,zI],[(true,Ub),zI,zI],XE⟩)::lH
theorem lK:TabOK Tryz.prog (Ad pu lJ):=R1 lI tT
def nY:List (Nat×Nat×Nat×An):=[(176,5,30,.loop { keep:=[0,1,3,7,15,31,23,11,19,27,9,17,25,13,21,29,2,16,32,24,12,20,28,6,10,18,26,14,22,30],kb:=[0,1,12,10],pl:=[.slot 8 false zJ],ex:=[(.exit 0,[])],pay:=.unit })]
theorem qK (x:AP [(true,T4),zI,(false,(.sl true T3))]):OE Tryz.prog (Ad pu lJ) (Qq nY) 3000 60 176 [(true,T4),zI,(false,(.sl true T3))] [(true,T4)] x=VG x:=by kernel_rfl
def lL:List (FuncId×Sg):=(176,⟨[(true,T4),zI,(false,(.sl true T3))],[(true,T4)],VG⟩)::lJ
theorem lM:TabOK Tryz.prog (Ad pu lL):=R1 lK qK
theorem pV (x:AP [(true,T4),zI]):OE Tryz.prog (Ad pu lL) (Qq []) 3000 60 139 [(true,T4),zI] [(true,T4),(false,(.sl true T3)),zI] x=U3 x:=by kernel_rfl
def lN:List (FuncId×Sg):=(139,⟨[(true,T4),zI],[(true,T4),(false,(.sl true T3)),zI],U3⟩)::lL
theorem lO:TabOK Tryz.prog (Ad pu lN):=R1 lM pV
end Go.Proofs.YtfilfloanndddaaGreat.Pt
