/- The evaluator comes to each of the plain functions. No condition. -/
import Derived.Test.YtfilfloanndddaaGreatPt1
set_option linter.all false
namespace Go.Proofs.YtfilfloanndddaaGreat.Pt
open Go Go.Proofs.YtfilfloanndddaaGreat.Sv Go.Proofs.YtfilfloanndddaaGreat.Pl
set_option maxRecDepth 1000000
set_option linter.unusedVariables false
theorem uE (x:AP []):OE Tryz.prog (Ad pu jL) (Qq []) 3000 60 44 [] [(true,Ur)] x=Vu x:=by kernel_rfl
def jN:List (FuncId×Sg):=(44,⟨[],[(true,Ur)],Vu⟩)::jL
theorem jO:TabOK Tryz.prog (Ad pu jN):=R1 jM uE
theorem rJ (x:AP [(false,.str)]):OE Tryz.prog (Ad pu jN) (Qq []) 3000 60 164 [(false,.str)] [zI] x=WI x:=by kernel_rfl
def jP:List (FuncId×Sg):=(164,⟨[(false,.str)],[zI],WI⟩)::jN
theorem jQ:TabOK Tryz.prog (Ad pu jP):=R1 jO rJ
theorem qf (x:AP [(true,T2)]):OE Tryz.prog (Ad pu jP) (Qq []) 3000 60 127 [(true,T2)] [zI] x=UX x:=by kernel_rfl
def jR:List (FuncId×Sg):=(127,⟨[(true,T2)],[zI],UX⟩)::jP
theorem jS:TabOK Tryz.prog (Ad pu jR):=R1 jQ qf
def ov:List (Nat×Nat×Nat×An):=[(188,4,8,.loop { keep:=[0,7,11,9,8,10],kb:=[],pl:=[.slot 3 false zJ,.slot 2 false zJ,.slot 12 false zJ],ex:=[(.ret,[]),(.exit 0,[])],pay:=.unit })]
theorem rm (x:AP [(false,(.sl true T2))]):OE Tryz.prog (Ad pu jR) (Qq ov) 3000 60 188 [(false,(.sl true T2))] [zI,zI] x=Ts x:=by kernel_rfl
def jT:List (FuncId×Sg):=(188,⟨[(false,(.sl true T2))],[zI,zI],Ts⟩)::jR
theorem jU:TabOK Tryz.prog (Ad pu jT):=R1 jS rm
theorem rK (x:AP [(true,T3)]):OE Tryz.prog (Ad pu jT) (Qq []) 3000 60 165 [(true,T3)] [zI,zI] x=W0 x:=by kernel_rfl
def jV:List (FuncId×Sg):=(165,⟨[(true,T3)],[zI,zI],W0⟩)::jT
theorem jW:TabOK Tryz.prog (Ad pu jV):=R1 jU rK
theorem rR (x:AP [(true,T3),zI]):OE Tryz.prog (Ad pu jV) (Qq []) 3000 60 177 [(true,T3),zI] [zI] x=U0 x:=by kernel_rfl
def jX:List (FuncId×Sg):=(177,⟨[(true,T3),zI],[zI],U0⟩)::jV
theorem jY:TabOK Tryz.prog (Ad pu jX):=R1 jW rR
def oU:List (Nat×Nat×Nat×An):=[(142,8,26,.loop { keep:=[0,1,15,23,11,19,27,5,17,25,13,21,29,16,24,12,20,28,18,26,14,22],kb:=[0],pl:=[.slot 3 false zJ,.slot 2 false zJ,.slot 4 false zJ,.slot 30 false zJ,.map 18 zJ false .bool],ex:=[(.exit 1,[])],pay:=.unit }),(142,14,44,.loop { keep:=[0,1,7,15,31,23,39,11,19,35,27,5,17,33,25,41,13,21,37,29,2,16,32,24,40,12,20,36,28,6,18,34,26,42,14,22,38,30],kb:=[0,30],pl:=[.slot 3 false zJ,.slot 43 false zJ,.slot 4 false zJ,.map 18 zJ false .bool],ex:=[(.exit 1,[]),(.exit 3,[])],pay:=.unit })]
theorem qo (x:AP [(true,T4)]):OE Tryz.prog (Ad pu jX) (Qq oU) 3000 60 142 [(true,T4)] [zI,zI,zI] x=U7 x:=by kernel_rfl
def jZ:List (FuncId×Sg):=(142,⟨[(true,T4)],[zI,zI,zI],U7⟩)::jX
theorem ja:TabOK Tryz.prog (Ad pu jZ):=R1 jY qo
def oV:List (Nat×Nat×Nat×An):=[(143,2,6,.loop { keep:=[0,1,7,9,8],kb:=[0],pl:=[.slot 2 false zJ,.slot 10 false zJ],ex:=[(.exit 0,[])],pay:=.unit }),(143,5,15,.loop { keep:=[0,1,7,15,11,9,13,4,8,16,12,10,14],kb:=[0,9],pl:=[.slot 17 false zJ,.slot 2 false zJ],ex:=[(.exit 2,[])],pay:=.unit })]
theorem qp (x:AP [(true,T4)]):OE Tryz.prog (Ad pu jZ) (Qq oV) 3000 60 143 [(true,T4)] [zI] x=Vt x:=by kernel_rfl
def jc:List (FuncId×Sg):=(143,⟨[(true,T4)],[zI],Vt⟩)::jZ
theorem jd:TabOK Tryz.prog (Ad pu jc):=R1 ja qp
theorem qq (x:AP [(true,T4),zI]):OE Tryz.prog (Ad pu jc) (Qq []) 3000 60 144 [(true,T4),zI] [(false,.bool)] x=Uz x:=by kernel_rfl
def je:List (FuncId×Sg):=(144,⟨[(true,T4),zI],[(false,.bool)],Uz⟩)::jc
theorem jf:TabOK Tryz.prog (Ad pu je):=R1 jd qq
def pB:List (Nat×Nat×Nat×An):=[(205,6,13,.loop { keep:=[0,15,11,9,17,13,8,16,12,10,14],kb:=[],pl:=[.slot 3 false zJ,.slot 2 false zJ,.slot 18 false zJ],ex:=[(.ret,[]),(.exit 1,[])],pay:=.unit })]
theorem sH (x:AP [(false,(.sl false (.sl true T2)))]):OE Tryz.prog (Ad pu je) (Qq pB) 3000 60 205 [(false,(.sl false (.sl true T2)))] [zI,zI] x=VS x:=by kernel_rfl
def jg:List (FuncId×Sg):=(205,⟨[(false,(.sl false (.sl true T2)))],[zI,zI],VS⟩)::je
theorem jh:TabOK Tryz.prog (Ad pu jg):=R1 jf sH
theorem rt (x:AP [(false,.bool)]):OE Tryz.prog (Ad pu jg) (Qq []) 3000 60 194 [(false,.bool)] [(true,Zm)] x=Uo x:=by kernel_rfl
def ji:List (FuncId×Sg):=(194,⟨[(false,.bool)],[(true,Zm)],Uo⟩)::jg
theorem jj:TabOK Tryz.prog (Ad pu ji):=R1 jh rt
theorem sy:L1 Tryz.prog (λf => !pu f) 1000 100 219=true:=by kernel_rfl
theorem sQ (a:Ty.den (.sl true T2)) (l:List (Ty.den (.sl true T2))):OE Tryz.prog (Ad pu ji) (Qq []) 3000 60 219 [(false,(.sl false (.sl true T2)))] [(false,(.sl false (.sl true T2)))] (a::l)=TP (a::l):=by kernel_rfl
def jk:List (FuncId×Sg):=(219,⟨[(false,(.sl false (.sl true T2)))],[(false,(.sl false (.sl true T2)))],TP⟩)::ji
theorem jl:TabOK Tryz.prog (Ad pu jk):=R2 (gg:=false) (c:=(.sl true T2)) jj sy rfl sQ
theorem tD:Oe Tryz.prog (λf => !pu f) 1000 100 219=true:=by kernel_rfl
theorem tI (a:Ty.den (.sl true T2)) (l:List (Ty.den (.sl true T2))):PZ Tryz.prog (Ad pu jk) (Qq []) 3000 60 219 [(false,(.sl false (.sl true T2)))] false (.sl true T2) (a::l)=TP (a::l):=by kernel_rfl
def jm:List (FuncId×Sg):=(219+Cq,⟨[(false,(.sl false (.sl true T2)))],[(false,(.sl false (.sl true T2)))],TP⟩)::jk
theorem jo:TabOK Tryz.prog (Ad pu jm):=R3 (gg:=false) (c:=(.sl true T2)) jl tD rfl (λa l y h=>Re h) tI
theorem sT (x:AP [(false,(.sl true T2)),zI]):OE Tryz.prog (Ad pu jm) (Qq []) 3000 60 222 [(false,(.sl true T2)),zI] [(true,T5)] x=Tk x:=by kernel_rfl
def jp:List (FuncId×Sg):=(222,⟨[(false,(.sl true T2)),zI],[(true,T5)],Tk⟩)::jm
theorem jq:TabOK Tryz.prog (Ad pu jp):=R1 jo sT
end Go.Proofs.YtfilfloanndddaaGreat.Pt
