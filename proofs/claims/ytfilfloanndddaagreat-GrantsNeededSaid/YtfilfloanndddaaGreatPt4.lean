/- The evaluator comes to each of the plain functions. No condition. -/
import Derived.Test.YtfilfloanndddaaGreatPt3
set_option linter.all false
namespace Go.Proofs.YtfilfloanndddaaGreat.Pt
open Go Go.Proofs.YtfilfloanndddaaGreat.Sv Go.Proofs.YtfilfloanndddaaGreat.Pl
set_option maxRecDepth 1000000
set_option linter.unusedVariables false
theorem qw (x:AP [(true,T7)]):OE Tryz.prog (Ad pu jj) (Qq []) 3000 60 208 [(true,T7)] [zI,(false,.str),zI] x=Un x:=by kernel_rfl
def jl:List (FuncId×Sg):=(208,⟨[(true,T7)],[zI,(false,.str),zI],Un⟩)::jj
theorem jm:TabOK Tryz.prog (Ad pu jl):=R1 jk qw
theorem rG (x:AP [(false,.str)]):OE Tryz.prog (Ad pu jl) (Qq []) 3000 60 225 [(false,.str)] [(false,.bool)] x=U3 x:=by kernel_rfl
def jo:List (FuncId×Sg):=(225,⟨[(false,.str)],[(false,.bool)],U3⟩)::jl
theorem jp:TabOK Tryz.prog (Ad pu jo):=R1 jm rG
theorem qy (x:AP [(false,.str),(false,.str)]):OE Tryz.prog (Ad pu jo) (Qq []) 3000 60 210 [(false,.str),(false,.str)] [zI] x=Uj x:=by kernel_rfl
def jq:List (FuncId×Sg):=(210,⟨[(false,.str),(false,.str)],[zI],Uj⟩)::jo
theorem jr:TabOK Tryz.prog (Ad pu jq):=R1 jp qy
theorem rH (x:AP [zI]):OE Tryz.prog (Ad pu jq) (Qq []) 3000 60 226 [zI] [(false,.bool)] x=Vi x:=by kernel_rfl
def jt:List (FuncId×Sg):=(226,⟨[zI],[(false,.bool)],Vi⟩)::jq
theorem ju:TabOK Tryz.prog (Ad pu jt):=R1 jr rH
theorem qz (x:AP [zI,zI]):OE Tryz.prog (Ad pu jt) (Qq []) 3000 60 211 [zI,zI] [zI] x=UU x:=by kernel_rfl
def jv:List (FuncId×Sg):=(211,⟨[zI,zI],[zI],UU⟩)::jt
theorem jw:TabOK Tryz.prog (Ad pu jv):=R1 ju qz
def oQ:List (Nat×Nat×Nat×An):=[(209,3,5,.loop { keep:=[0,3,7,6],kb:=[],pl:=[.slot 2 false zJ,.slot 8 false zJ],ex:=[(.ret,[]),(.exit 0,[])],pay:=.unit })]
theorem qx (x:AP [(false,(.sl false zJ))]):OE Tryz.prog (Ad pu jv) (Qq oQ) 3000 60 209 [(false,(.sl false zJ))] [zI] x=Wh x:=by kernel_rfl
def jx:List (FuncId×Sg):=(209,⟨[(false,(.sl false zJ))],[zI],Wh⟩)::jv
theorem jy:TabOK Tryz.prog (Ad pu jx):=R1 jw qx
def oG:List (Nat×Nat×Nat×An):=[(191,7,24,.loop { keep:=[0,1,15,31,23,19,27,5,17,25,13,29,4,16,24,12,28,18,26,14,22,30],kb:=[0],pl:=[.slot 3 false zJ,.slot 2 false zJ,.slot 32 false zJ],ex:=[(.ret,[]),(.exit 0,[])],pay:=.unit }),(191,18,49,.loop { keep:=[0,1,15,31,63,23,71,55,19,67,51,27,59,5,9,17,65,25,57,13,69,53,29,61,4,8,16,32,64,24,56,12,68,52,28,60,18,66,26,58,14,22,70,54,30,62],kb:=[0],pl:=[.slot 3 false zJ,.slot 2 false zJ,.slot 72 false zJ],ex:=[(.ret,[]),(.exit 2,[])],pay:=.unit })]
theorem qf (x:AP [(true,T9)]):OE Tryz.prog (Ad pu jx) (Qq oG) 3000 60 191 [(true,T9)] [zI,zI] x=VM x:=by kernel_rfl
def jz:List (FuncId×Sg):=(191,⟨[(true,T9)],[zI,zI],VM⟩)::jx
theorem j0:TabOK Tryz.prog (Ad pu jz):=R1 jy qf
theorem rZ:L1 Tryz.prog (λf => !pu f) 1000 100 228=true:=by kernel_rfl
theorem rI (a:Ty.den zJ) (l:List (Ty.den zJ)):OE Tryz.prog (Ad pu jz) (Qq []) 3000 60 228 [(false,(.sl false zJ))] [(false,(.sl false zJ))] (a::l)=TZ (a::l):=by kernel_rfl
def j7:List (FuncId×Sg):=(228,⟨[(false,(.sl false zJ))],[(false,(.sl false zJ))],TZ⟩)::jz
theorem j8:TabOK Tryz.prog (Ad pu j7):=R2 (gg:=false) (c:=zJ) j0 rZ rfl rI
theorem rn:Oe Tryz.prog (λf => !pu f) 1000 100 228=true:=by kernel_rfl
theorem ru (a:Ty.den zJ) (l:List (Ty.den zJ)):PZ Tryz.prog (Ad pu j7) (Qq []) 3000 60 228 [(false,(.sl false zJ))] false zJ (a::l)=TZ (a::l):=by kernel_rfl
def j9:List (FuncId×Sg):=(228+Cq,⟨[(false,(.sl false zJ))],[(false,(.sl false zJ))],TZ⟩)::j7
theorem kA:TabOK Tryz.prog (Ad pu j9):=R3 (gg:=false) (c:=zJ) j8 rn rfl (λa l y h=>Re h) ru
theorem rS (x:AP [zI,zI,(true,om)]):PW Tryz.prog (Ad pu j9) (Qq []) 3000 60 239 [zI,zI,(true,om)] [(false,.bool)] x=UB x:=by kernel_rfl
def kB:List (FuncId×Sg):=(3145967,⟨[zI,zI,(true,om)],[(false,.bool)],UB⟩)::j9
theorem kC:TabOK Tryz.prog (Ad pu kB):=SH (f:=239) kA rS
def oS:List (Nat×Nat×Nat×An):=[(229,13,63,.loop { keep:=[0,1,3,7,31,63,47,55,11,19,35,51,27,43,59,9,17,33,49,25,41,57,13,21,37,53,29,61,2,4,8,32,24,40,56,12,20,36,52,28,44,60,6,18,34,50,26,42,58,14,38,54,30,46,62],kb:=[0,1,33,52],pl:=[.slot 5 false zJ,.slot 10 false zJ,.box 2 [.kp 33,.ow false zJ false,.lf zJ]],ex:=[(.exit 0,[])],pay:=.unit })]
theorem rJ (x:AP [(true,T7),(true,T5)]):OE Tryz.prog (Ad pu kB) (Qq oS) 3000 60 229 [(true,T7),(true,T5)] [(true,T7),zI,zI] x=Ua x:=by kernel_rfl
def kD:List (FuncId×Sg):=(229,⟨[(true,T7),(true,T5)],[(true,T7),zI,zI],Ua⟩)::kB
theorem kF:TabOK Tryz.prog (Ad pu kD):=R1 kC rJ
def oH:List (Nat×Nat×Nat×An):=[(227,0,45,.loop { keep:=[0,1],kb:=[39,35,43,9,13,44],pl:=[.box 0 [.ow true T2 false],.box 1 [.ow false zJ false]],ex:=[(.ret,[(44,0,none)])],pay:=.unit }),(207,3,47,.loop { keep:=[0,1,11,13,4,10,14],kb:=[0,1,39,27,13,30],pl:=[.slot 15 false zJ,.srow 5 true T5 true],ex:=[(.exit 0,[])],pay:=.unit }),(227,0,72,.loop { keep:=[0,1],kb:=[47,39,71,9,13,53,66,70,30],pl:=[.box 0 [.ow true T2 false],.box 1 [.ow false zJ false],.box 62 [.kp 30,.ow false zJ true,.lf (.sl true T5),.lf (.sl false zJ),.lf zJ]],ex:=[(.ret,[(71,0,none)])],pay:=.unit })]
theorem qg (x:AP [(false,(.sl false (.sl true T2)))]):OE Tryz.prog (Ad pu kD) (Qq oH) 3000 60 192 [(false,(.sl false (.sl true T2)))] [(false,(.sl true T2)),(false,(.sl false zJ)),zI] x=XF x:=by kernel_rfl
def kG:List (FuncId×Sg):=(192,⟨[(false,(.sl false (.sl true T2)))],[(false,(.sl true T2)),(false,(.sl false zJ)),zI],XF⟩)::kD
theorem kH:TabOK Tryz.prog (Ad pu kG):=R1 kF qg
theorem rK (x:AP [(true,Zh)]):OE Tryz.prog (Ad pu kG) (Qq []) 3000 60 230 [(true,Zh)] [zI] x=VZ x:=by kernel_rfl
def kI:List (FuncId×Sg):=(230,⟨[(true,Zh)],[zI],VZ⟩)::kG
theorem kJ:TabOK Tryz.prog (Ad pu kI):=R1 kH rK
theorem rT (x:AP [(true,T2)]):OE Tryz.prog (Ad pu kI) (Qq []) 3000 60 256 [(true,T2)] [(true,T2)] x=Td x:=by kernel_rfl
def kK:List (FuncId×Sg):=(256,⟨[(true,T2)],[(true,T2)],Td⟩)::kI
theorem kL:TabOK Tryz.prog (Ad pu kK):=R1 kJ rT
end Go.Proofs.YtfilfloanndddaaGreat.Pt
