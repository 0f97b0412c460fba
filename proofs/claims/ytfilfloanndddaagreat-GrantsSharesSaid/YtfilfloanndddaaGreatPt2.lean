/- The evaluator comes to each of the plain functions. No condition. -/
import Derived.Test.YtfilfloanndddaaGreatPt1
set_option linter.all false
namespace Go.Proofs.YtfilfloanndddaaGreat.Pt
open Go Go.Proofs.YtfilfloanndddaaGreat.Sv Go.Proofs.YtfilfloanndddaaGreat.Pl
set_option maxRecDepth 1000000
set_option linter.unusedVariables false
theorem uR (x:AH []):Ac Tryz.prog (AC pu fW) (AK []) 3000 60 44 [] [(true,CG)] x=Ek x:=by kernel_rfl
def fY:List (FuncId×Sg):=(44,⟨[],[(true,CG)],Ek⟩)::fW
theorem fZ:TabOK Tryz.prog (AC pu fY):=AF fX uR
theorem qV (x:AH [(false,.str)]):Ac Tryz.prog (AC pu fY) (AK []) 3000 60 164 [(false,.str)] [zI] x=FX x:=by kernel_rfl
def fa:List (FuncId×Sg):=(164,⟨[(false,.str)],[zI],FX⟩)::fY
theorem fb:TabOK Tryz.prog (AC pu fa):=AF fZ qV
theorem qW (x:AH [(true,T2)]):Ac Tryz.prog (AC pu fa) (AK []) 3000 60 127 [(true,T2)] [zI] x=CW x:=by kernel_rfl
def fc:List (FuncId×Sg):=(127,⟨[(true,T2)],[zI],CW⟩)::fa
theorem fe:TabOK Tryz.prog (AC pu fc):=AF fb qW
def oM:List (Nat×Nat×Nat×An):=[(188,4,8,.loop { keep:=[0,7,11,9,8,10],kb:=[],pl:=[.slot 3 false zJ,.slot 2 false zJ,.slot 12 false zJ],ex:=[(.ret,[]),(.exit 0,[])],pay:=.unit })]
theorem qX (x:AH [(false,(.sl true T2))]):Ac Tryz.prog (AC pu fc) (AK oM) 3000 60 188 [(false,(.sl true T2))] [zI,zI] x=BZ x:=by kernel_rfl
def ff:List (FuncId×Sg):=(188,⟨[(false,(.sl true T2))],[zI,zI],BZ⟩)::fc
theorem fh:TabOK Tryz.prog (AC pu ff):=AF fe qX
theorem qY (x:AH [(true,T3)]):Ac Tryz.prog (AC pu ff) (AK []) 3000 60 165 [(true,T3)] [zI,zI] x=Gm x:=by kernel_rfl
def fi:List (FuncId×Sg):=(165,⟨[(true,T3)],[zI,zI],Gm⟩)::ff
theorem fj:TabOK Tryz.prog (AC pu fi):=AF fh qY
theorem qZ (x:AH [(true,T3),zI]):Ac Tryz.prog (AC pu fi) (AK []) 3000 60 177 [(true,T3),zI] [zI] x=DE x:=by kernel_rfl
def fm:List (FuncId×Sg):=(177,⟨[(true,T3),zI],[zI],DE⟩)::fi
theorem fo:TabOK Tryz.prog (AC pu fm):=AF fj qZ
def oN:List (Nat×Nat×Nat×An):=[(142,8,26,.loop { keep:=[0,1,15,23,11,19,27,5,17,25,13,21,29,16,24,12,20,28,18,26,14,22],kb:=[0],pl:=[.slot 3 false zJ,.slot 2 false zJ,.slot 4 false zJ,.slot 30 false zJ,.map 18 zJ false .bool],ex:=[(.exit 1,[])],pay:=.unit }),(142,14,44,.loop { keep:=[0,1,7,15,31,23,39,11,19,35,27,5,17,33,25,41,13,21,37,29,2,16,32,24,40,12,20,36,28,6,18,34,26,42,14,22,38,30],kb:=[0,30],pl:=[.slot 3 false zJ,.slot 43 false zJ,.slot 4 false zJ,.map 18 zJ false .bool],ex:=[(.exit 1,[]),(.exit 3,[])],pay:=.unit })]
theorem qc (x:AH [(true,T4)]):Ac Tryz.prog (AC pu fm) (AK oN) 3000 60 142 [(true,T4)] [zI,zI,zI] x=DM x:=by kernel_rfl
def fq:List (FuncId×Sg):=(142,⟨[(true,T4)],[zI,zI,zI],DM⟩)::fm
theorem ft:TabOK Tryz.prog (AC pu fq):=AF fo qc
def oO:List (Nat×Nat×Nat×An):=[(143,2,6,.loop { keep:=[0,1,7,9,8],kb:=[0],pl:=[.slot 2 false zJ,.slot 10 false zJ],ex:=[(.exit 0,[])],pay:=.unit }),(143,5,15,.loop { keep:=[0,1,7,15,11,9,13,4,8,16,12,10,14],kb:=[0,9],pl:=[.slot 17 false zJ,.slot 2 false zJ],ex:=[(.exit 2,[])],pay:=.unit })]
theorem qd (x:AH [(true,T4)]):Ac Tryz.prog (AC pu fq) (AK oO) 3000 60 143 [(true,T4)] [zI] x=Ee x:=by kernel_rfl
def fu:List (FuncId×Sg):=(143,⟨[(true,T4)],[zI],Ee⟩)::fq
theorem fw:TabOK Tryz.prog (AC pu fu):=AF ft qd
theorem qf (x:AH [(true,T4),zI]):Ac Tryz.prog (AC pu fu) (AK []) 3000 60 144 [(true,T4),zI] [(false,.bool)] x=DG x:=by kernel_rfl
def fx:List (FuncId×Sg):=(144,⟨[(true,T4),zI],[(false,.bool)],DG⟩)::fu
theorem fy:TabOK Tryz.prog (AC pu fx):=AF fw qf
def oQ:List (Nat×Nat×Nat×An):=[(205,6,13,.loop { keep:=[0,15,11,9,17,13,8,16,12,10,14],kb:=[],pl:=[.slot 3 false zJ,.slot 2 false zJ,.slot 18 false zJ],ex:=[(.ret,[]),(.exit 1,[])],pay:=.unit })]
theorem qg (x:AH [(false,(.sl false (.sl true T2)))]):Ac Tryz.prog (AC pu fx) (AK oQ) 3000 60 205 [(false,(.sl false (.sl true T2)))] [zI,zI] x=Dp x:=by kernel_rfl
def f6:List (FuncId×Sg):=(205,⟨[(false,(.sl false (.sl true T2)))],[zI,zI],Dp⟩)::fx
theorem f7:TabOK Tryz.prog (AC pu f6):=AF fy qg
theorem qh (x:AH [(false,.bool)]):Ac Tryz.prog (AC pu f6) (AK []) 3000 60 194 [(false,.bool)] [(true,Qk)] x=Cq x:=by kernel_rfl
def f8:List (FuncId×Sg):=(194,⟨[(false,.bool)],[(true,Qk)],Cq⟩)::f6
theorem f9:TabOK Tryz.prog (AC pu f8):=AF f7 qh
theorem qi:ML Tryz.prog (λf => !pu f) 1000 100 219=true:=by kernel_rfl
theorem qj (a:Ty.den (.sl true T2)) (l:List (Ty.den (.sl true T2))):Ac Tryz.prog (AC pu f8) (AK []) 3000 60 219 [(false,(.sl false (.sl true T2)))] [(false,(.sl false (.sl true T2)))] (a::l)=Aq (a::l):=by kernel_rfl
def gA:List (FuncId×Sg):=(219,⟨[(false,(.sl false (.sl true T2)))],[(false,(.sl false (.sl true T2)))],Aq⟩)::f8
theorem gB:TabOK Tryz.prog (AC pu gA):=NM (gg:=false) (c:=(.sl true T2)) f9 qi rfl qj
theorem qk:OI Tryz.prog (λf => !pu f) 1000 100 219=true:=by kernel_rfl
theorem ql (a:Ty.den (.sl true T2)) (l:List (Ty.den (.sl true T2))):Pp Tryz.prog (AC pu gA) (AK []) 3000 60 219 [(false,(.sl false (.sl true T2)))] false (.sl true T2) (a::l)=Aq (a::l):=by kernel_rfl
def gC:List (FuncId×Sg):=(219+GS,⟨[(false,(.sl false (.sl true T2)))],[(false,(.sl false (.sl true T2)))],Aq⟩)::gA
theorem gD:TabOK Tryz.prog (AC pu gC):=NN (gg:=false) (c:=(.sl true T2)) gB qk rfl (λa l y h=>NO h) ql
theorem qm (x:AH [(false,(.sl true T2)),zI]):Ac Tryz.prog (AC pu gC) (AK []) 3000 60 222 [(false,(.sl true T2)),zI] [(true,T5)] x=BS x:=by kernel_rfl
def gE:List (FuncId×Sg):=(222,⟨[(false,(.sl true T2)),zI],[(true,T5)],BS⟩)::gC
theorem gF:TabOK Tryz.prog (AC pu gE):=AF gD qm
end Go.Proofs.YtfilfloanndddaaGreat.Pt
