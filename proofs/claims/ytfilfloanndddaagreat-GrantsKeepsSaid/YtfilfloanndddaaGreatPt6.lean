/- The evaluator comes to each of the plain functions. No condition. -/
import Derived.Test.YtfilfloanndddaaGreatPt5
set_option linter.all false
namespace Go.Proofs.YtfilfloanndddaaGreat.Pt
open Go Go.Proofs.YtfilfloanndddaaGreat.Sv Go.Proofs.YtfilfloanndddaaGreat.Pl
set_option maxRecDepth 1000000
set_option linter.unusedVariables false
theorem tI (x:AP [(true,WG),zI]):OE Tryz.prog (Ad pu kc) (Qq []) 3000 60 91 [(true,WG),zI] [(true,dU),zI] x=Ue x:=by kernel_rfl
def kg:List (FuncId×Sg):=(91,⟨[(true,WG),zI],[(true,dU),zI],Ue⟩)::kc
theorem kh:TabOK Tryz.prog (Ad pu kg):=R1 ke tI
theorem tK (x:AP [(true,dU)]):OE Tryz.prog (Ad pu kg) (Qq []) 3000 60 93 [(true,dU)] [(false,.bool)] x=TX x:=by kernel_rfl
def ki:List (FuncId×Sg):=(93,⟨[(true,dU)],[(false,.bool)],TX⟩)::kg
theorem kj:TabOK Tryz.prog (Ad pu ki):=R1 kh tK
theorem qK (x:AP [zI,zI]):OE Tryz.prog (Ad pu ki) (Qq []) 3000 60 171 [zI,zI] [zI,zI] x=WN x:=by kernel_rfl
def kl:List (FuncId×Sg):=(171,⟨[zI,zI],[zI,zI],WN⟩)::ki
theorem km:TabOK Tryz.prog (Ad pu kl):=R1 kj qK
theorem pU (x:AP [(true,dU)]):OE Tryz.prog (Ad pu kl) (Qq []) 3000 60 135 [(true,dU)] [(false,.bool)] x=Tk x:=by kernel_rfl
def kn:List (FuncId×Sg):=(135,⟨[(true,dU)],[(false,.bool)],Tk⟩)::kl
theorem ko:TabOK Tryz.prog (Ad pu kn):=R1 km pU
theorem qL (x:AP [(true,T4),zI]):OE Tryz.prog (Ad pu kn) (Qq []) 3000 60 174 [(true,T4),zI] [zI] x=Vx x:=by kernel_rfl
def kq:List (FuncId×Sg):=(174,⟨[(true,T4),zI],[zI],Vx⟩)::kn
theorem kr:TabOK Tryz.prog (Ad pu kq):=R1 ko qL
theorem qF (x:AP [(true,T4),zI]):OE Tryz.prog (Ad pu kq) (Qq []) 3000 60 163 [(true,T4),zI] [(false,.bool),zI] x=WM x:=by kernel_rfl
def ks:List (FuncId×Sg):=(163,⟨[(true,T4),zI],[(false,.bool),zI],WM⟩)::kq
theorem ku:TabOK Tryz.prog (Ad pu ks):=R1 kr qF
theorem pV (x:AP [(true,dU)]):OE Tryz.prog (Ad pu ks) (Qq []) 3000 60 136 [(true,dU)] [(false,.bool)] x=Ul x:=by kernel_rfl
def kw:List (FuncId×Sg):=(136,⟨[(true,dU)],[(false,.bool)],Ul⟩)::ks
theorem ky:TabOK Tryz.prog (Ad pu kw):=R1 ku pV
def pB:List (Nat×Nat×Nat×An):=[(92,2,11,.loop { keep:=[0,1,7,11,5,9,8,12,6,10],kb:=[0],pl:=[.slot 13 false zJ,.slot 2 false .bool],ex:=[(.ret,[]),(.exit 0,[])],pay:=.unit })]
theorem tJ (x:AP [(true,dU)]):OE Tryz.prog (Ad pu kw) (Qq pB) 3000 60 92 [(true,dU)] [(false,.bool)] x=Tx x:=by kernel_rfl
def kz:List (FuncId×Sg):=(92,⟨[(true,dU)],[(false,.bool)],Tx⟩)::kw
theorem lA:TabOK Tryz.prog (Ad pu kz):=R1 ky tJ
def ou:List (Nat×Nat×Nat×An):=[(41,8,21,.loop { keep:=[0,1,15,23,11,19,17,13,21,4,16,24,12,20,10,14,22],kb:=[0],pl:=[.slot 3 false zJ,.slot 5 false .bool,.slot 25 false zJ,.slot 2 false zJ],ex:=[(.ret,[]),(.exit 1,[])],pay:=.unit })]
theorem sf (x:AP [(true,WG)]):OE Tryz.prog (Ad pu kz) (Qq ou) 3000 60 41 [(true,WG)] [zI,zI] x=Tv x:=by kernel_rfl
def lB:List (FuncId×Sg):=(41,⟨[(true,WG)],[zI,zI],Tv⟩)::kz
theorem lC:TabOK Tryz.prog (Ad pu lB):=R1 lA sf
theorem rO:L1 Tryz.prog (λf => !pu f) 1000 100 138=true:=by kernel_rfl
theorem pX (a:Ty.den YQ) (l:List (Ty.den YQ)):OE Tryz.prog (Ad pu lB) (Qq []) 3000 60 138 [(false,(.sl true YQ))] [(false,(.sl true YQ))] (a::l)=Tw (a::l):=by kernel_rfl
def lD:List (FuncId×Sg):=(138,⟨[(false,(.sl true YQ))],[(false,(.sl true YQ))],Tw⟩)::lB
theorem lE:TabOK Tryz.prog (Ad pu lD):=R2 (gg:=true) (c:=YQ) lC rO rfl pX
theorem rT:Oe Tryz.prog (λf => !pu f) 1000 100 138=true:=by kernel_rfl
theorem ra (a:Ty.den YQ) (l:List (Ty.den YQ)):PZ Tryz.prog (Ad pu lD) (Qq []) 3000 60 138 [(false,(.sl true YQ))] true YQ (a::l)=Tw (a::l):=by kernel_rfl
def lF:List (FuncId×Sg):=(138+Cq,⟨[(false,(.sl true YQ))],[(false,(.sl true YQ))],Tw⟩)::lD
theorem lG:TabOK Tryz.prog (Ad pu lF):=R3 (gg:=true) (c:=YQ) lE rT rfl (λa l y h=>Re h) ra
theorem tL (x:AP [(true,WG),zI,zI]):OE Tryz.prog (Ad pu lF) (Qq []) 3000 60 94 [(true,WG),zI,zI] [(true,WG),zI,zI] x=XC x:=by kernel_rfl
def lH:List (FuncId×Sg):=(94,⟨[(true,WG),zI,zI],[(true,WG),zI,zI],XC⟩)::lF
theorem lI:TabOK Tryz.prog (Ad pu lH):=R1 lG tL
def ni:List (Nat×Nat×Nat×An):=[(176,5,30,.loop { keep:=[0,1,3,7,15,31,23,11,19,27,9,17,25,13,21,29,2,16,32,24,12,20,28,6,10,18,26,14,22,30],kb:=[0,1,12,10],pl:=[.slot 8 false zJ],ex:=[(.exit 0,[])],pay:=.unit })]
theorem qM (x:AP [(true,T4),zI,(false,(.sl true T3))]):OE Tryz.prog (Ad pu lH) (Qq ni) 3000 60 176 [(true,T4),zI,(false,(.sl true T3))] [(true,T4)] x=VK x:=by kernel_rfl
def lJ:List (FuncId×Sg):=(176,⟨[(true,T4),zI,(false,(.sl true T3))],[(true,T4)],VK⟩)::lH
theorem lK:TabOK Tryz.prog (Ad pu lJ):=R1 lI qM
theorem pY (x:AP [(true,T4),zI]):OE Tryz.prog (Ad pu lJ) (Qq []) 3000 60 139 [(true,T4),zI] [(true,T4),(false,(.sl true T3)),zI] x=U6 x:=by kernel_rfl
def lL:List (FuncId×Sg):=(139,⟨[(true,T4),zI],[(true,T4),(false,(.sl true T3)),zI],U6⟩)::lJ
theorem lM:TabOK Tryz.prog (Ad pu lL):=R1 lK pY
end Go.Proofs.YtfilfloanndddaaGreat.Pt
