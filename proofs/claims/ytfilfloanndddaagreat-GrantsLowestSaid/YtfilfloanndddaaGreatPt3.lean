/- The evaluator comes to each of the plain functions. No condition. -/
import Derived.Test.YtfilfloanndddaaGreatPt2
set_option linter.all false
namespace Go.Proofs.YtfilfloanndddaaGreat.Pt
open Go Go.Proofs.YtfilfloanndddaaGreat.Sv Go.Proofs.YtfilfloanndddaaGreat.Pl
set_option maxRecDepth 1000000
set_option linter.unusedVariables false
theorem ss (x:AP [(true,T5)]):OE Tryz.prog (Ad pu jp) (Qq []) 3000 60 238 [(true,T5)] [(false,.bool)] x=VD x:=by kernel_rfl
def jr:List (FuncId×Sg):=(238,⟨[(true,T5)],[(false,.bool)],VD⟩)::jp
theorem jt:TabOK Tryz.prog (Ad pu jr):=R1 jq ss
def pG:List (Nat×Nat×Nat×An):=[(240,2,22,.loop { keep:=[0,1,7,6],kb:=[],pl:=[.slot 4 false zJ,.slot 8 false zJ],ex:=[(.ret,[]),(.exit 0,[])],pay:=.unit })]
theorem sf (x:AP [(false,(.sl true T5))]):OE Tryz.prog (Ad pu jr) (Qq pG) 3000 60 232 [(false,(.sl true T5))] [zI] x=VP x:=by kernel_rfl
def ju:List (FuncId×Sg):=(232,⟨[(false,(.sl true T5))],[zI],VP⟩)::jr
theorem jv:TabOK Tryz.prog (Ad pu ju):=R1 jt sf
theorem tB:L1 Tryz.prog (λf => !pu f) 1000 100 235=true:=by kernel_rfl
theorem sq (a:Ty.den T5) (l:List (Ty.den T5)):OE Tryz.prog (Ad pu ju) (Qq []) 3000 60 235 [(false,(.sl true T5))] [(false,(.sl true T5))] (a::l)=TQ (a::l):=by kernel_rfl
def jw:List (FuncId×Sg):=(235,⟨[(false,(.sl true T5))],[(false,(.sl true T5))],TQ⟩)::ju
theorem jx:TabOK Tryz.prog (Ad pu jw):=R2 (gg:=true) (c:=T5) jv tB rfl sq
theorem tG:Oe Tryz.prog (λf => !pu f) 1000 100 235=true:=by kernel_rfl
theorem tK (a:Ty.den T5) (l:List (Ty.den T5)):PZ Tryz.prog (Ad pu jw) (Qq []) 3000 60 235 [(false,(.sl true T5))] true T5 (a::l)=TQ (a::l):=by kernel_rfl
def jy:List (FuncId×Sg):=(235+Cq,⟨[(false,(.sl true T5))],[(false,(.sl true T5))],TQ⟩)::jw
theorem jz:TabOK Tryz.prog (Ad pu jy):=R3 (gg:=true) (c:=T5) jx tG rfl (λa l y h=>Re h) tK
def pH:List (Nat×Nat×Nat×An):=[(233,6,26,.loop { keep:=[0,3,15,23,11,19,17,13,2,4,24,12,6,10,14,22],kb:=[0,7],pl:=[.slot 7 false zJ,.srow 5 false zJ true,.box 20 [.ow true T5 false,.ow false zJ true,.lf zJ]],ex:=[(.exit 0,[])],pay:=.unit })]
theorem si (x:AP [(false,(.sl true T5))]):OE Tryz.prog (Ad pu jy) (Qq pH) 3000 60 233 [(false,(.sl true T5))] [(true,T7)] x=WK x:=by kernel_rfl
def j0:List (FuncId×Sg):=(233,⟨[(false,(.sl true T5))],[(true,T7)],WK⟩)::jy
theorem j7:TabOK Tryz.prog (Ad pu j0):=R1 jz si
theorem sU (x:AP [(false,(.sl true T5))]):OE Tryz.prog (Ad pu j0) (Qq []) 3000 60 223 [(false,(.sl true T5))] [(true,T7),zI] x=Ue x:=by kernel_rfl
def j8:List (FuncId×Sg):=(223,⟨[(false,(.sl true T5))],[(true,T7),zI],Ue⟩)::j0
theorem j9:TabOK Tryz.prog (Ad pu j8):=R1 j7 sU
def om:List (Nat×Nat×Nat×An):=[(207,3,47,.loop { keep:=[0,1,11,13,4,10,14],kb:=[0,39,27,13,30],pl:=[.slot 15 false zJ,.srow 5 true T5 true],ex:=[(.exit 0,[])],pay:=.unit })]
theorem rT (x:AP [(false,(.sl false (.sl true T2))),(false,.bool)]):OE Tryz.prog (Ad pu j8) (Qq om) 3000 60 180 [(false,(.sl false (.sl true T2))),(false,.bool)] [(true,Xn),zI,zI] x=WE x:=by kernel_rfl
def kA:List (FuncId×Sg):=(180,⟨[(false,(.sl false (.sl true T2))),(false,.bool)],[(true,Xn),zI,zI],WE⟩)::j8
theorem kB:TabOK Tryz.prog (Ad pu kA):=R1 j9 rT
theorem qt (x:AP [(true,T4),zI,(false,.bool)]):OE Tryz.prog (Ad pu kA) (Qq []) 3000 60 145 [(true,T4),zI,(false,.bool)] [(true,Xj)] x=Ud x:=by kernel_rfl
def kC:List (FuncId×Sg):=(145,⟨[(true,T4),zI,(false,.bool)],[(true,Xj)],Ud⟩)::kA
theorem kD:TabOK Tryz.prog (Ad pu kC):=R1 kB qt
def pC:List (Nat×Nat×Nat×An):=[(207,3,8,.loop { keep:=[0,1,11,13,4,10,14],kb:=[0],pl:=[.slot 15 false zJ,.srow 5 true T5 true],ex:=[(.exit 0,[])],pay:=.unit })]
theorem sJ (x:AP [(false,(.sl false (.sl true T2))),(false,(.sl false zJ))]):OE Tryz.prog (Ad pu kC) (Qq pC) 3000 60 207 [(false,(.sl false (.sl true T2))),(false,(.sl false zJ))] [(true,T7)] x=Wq x:=by kernel_rfl
def kF:List (FuncId×Sg):=(1048783,⟨[(false,(.sl false (.sl true T2))),(false,(.sl false zJ))],[(true,T7)],Wq⟩)::kC
theorem kG:TabOK Tryz.prog (Ad pu kF):=R1 kD sJ
def ot:List (Nat×Nat×Nat×An):=[(184,4,9,.loop { keep:=[0,1,7,11,9,8,12,6,10],kb:=[],pl:=[.slot 13 false zJ,.slot 4 false .bool],ex:=[(.ret,[]),(.exit 0,[])],pay:=.unit })]
theorem rZ (x:AP [(false,(.sl true T5)),(false,(.sl true T5))]):OE Tryz.prog (Ad pu kF) (Qq ot) 3000 60 184 [(false,(.sl true T5)),(false,(.sl true T5))] [(false,.bool)] x=TS x:=by kernel_rfl
def kH:List (FuncId×Sg):=(184,⟨[(false,(.sl true T5)),(false,(.sl true T5))],[(false,.bool)],TS⟩)::kF
theorem kI:TabOK Tryz.prog (Ad pu kH):=R1 kG rZ
def oq:List (Nat×Nat×Nat×An):=[(183,4,9,.loop { keep:=[0,1,7,11,9,8,12,6,10],kb:=[],pl:=[.slot 13 false zJ,.slot 4 false .bool],ex:=[(.ret,[]),(.exit 0,[])],pay:=.unit })]
theorem rV (x:AP [(false,(.sl false zJ)),(false,(.sl false zJ))]):OE Tryz.prog (Ad pu kH) (Qq oq) 3000 60 183 [(false,(.sl false zJ)),(false,(.sl false zJ))] [(false,.bool)] x=TK x:=by kernel_rfl
def kJ:List (FuncId×Sg):=(183,⟨[(false,(.sl false zJ)),(false,(.sl false zJ))],[(false,.bool)],TK⟩)::kH
theorem kK:TabOK Tryz.prog (Ad pu kJ):=R1 kI rV
theorem sI (x:AP [(true,T7),(true,T7)]):OE Tryz.prog (Ad pu kJ) (Qq []) 3000 60 206 [(true,T7),(true,T7)] [(false,.bool)] x=Vz x:=by kernel_rfl
def kL:List (FuncId×Sg):=(206,⟨[(true,T7),(true,T7)],[(false,.bool)],Vz⟩)::kJ
theorem kM:TabOK Tryz.prog (Ad pu kL):=R1 kK sI
def pI:List (Nat×Nat×Nat×An):=[(234,8,25,.loop { keep:=[0,1,15,23,11,19,5,9,17,25,21,4,8,16,24,12,20,10,18,26,14,22],kb:=[0,19],pl:=[.slot 3 false zJ,.slot 27 false zJ,.slot 2 false zJ],ex:=[(.ret,[]),(.exit 0,[])],pay:=.unit })]
theorem sj (x:AP [(true,T7)]):OE Tryz.prog (Ad pu kL) (Qq pI) 3000 60 234 [(true,T7)] [zI,zI] x=WV x:=by kernel_rfl
def kO:List (FuncId×Sg):=(234,⟨[(true,T7)],[zI,zI],WV⟩)::kL
theorem kP:TabOK Tryz.prog (Ad pu kO):=R1 kM sj
theorem sV (x:AP [(true,T7)]):OE Tryz.prog (Ad pu kO) (Qq []) 3000 60 224 [(true,T7)] [zI] x=WJ x:=by kernel_rfl
def kQ:List (FuncId×Sg):=(224,⟨[(true,T7)],[zI],WJ⟩)::kO
theorem kS:TabOK Tryz.prog (Ad pu kQ):=R1 kP sV
end Go.Proofs.YtfilfloanndddaaGreat.Pt
