/- The evaluator comes to each of the plain functions. No condition. -/
import Derived.Test.YtfilfloanndddaaGreatPt2
set_option linter.all false
namespace Go.Proofs.YtfilfloanndddaaGreat.Pt
open Go Go.Proofs.YtfilfloanndddaaGreat.Sv Go.Proofs.YtfilfloanndddaaGreat.Pl
set_option maxRecDepth 1000000
set_option linter.unusedVariables false
theorem rL (x:AP [(true,T5)]):OE Tryz.prog (Ad pu i0) (Qq []) 3000 60 238 [(true,T5)] [(false,.bool)] x=VB x:=by kernel_rfl
def i5:List (FuncId×Sg):=(238,⟨[(true,T5)],[(false,.bool)],VB⟩)::i0
theorem i6:TabOK Tryz.prog (Ad pu i5):=R1 i4 rL
def oH:List (Nat×Nat×Nat×An):=[(240,2,22,.loop { keep:=[0,1,7,6],kb:=[],pl:=[.slot 4 false zJ,.slot 8 false zJ],ex:=[(.ret,[]),(.exit 0,[])],pay:=.unit })]
theorem rH (x:AP [(false,(.sl true T5))]):OE Tryz.prog (Ad pu i5) (Qq oH) 3000 60 232 [(false,(.sl true T5))] [zI] x=VM x:=by kernel_rfl
def i7:List (FuncId×Sg):=(232,⟨[(false,(.sl true T5))],[zI],VM⟩)::i5
theorem i8:TabOK Tryz.prog (Ad pu i7):=R1 i6 rH
theorem rS:L1 Tryz.prog (λf => !pu f) 1000 100 235=true:=by kernel_rfl
theorem rK (a:Ty.den T5) (l:List (Ty.den T5)):OE Tryz.prog (Ad pu i7) (Qq []) 3000 60 235 [(false,(.sl true T5))] [(false,(.sl true T5))] (a::l)=TP (a::l):=by kernel_rfl
def i9:List (FuncId×Sg):=(235,⟨[(false,(.sl true T5))],[(false,(.sl true T5))],TP⟩)::i7
theorem jA:TabOK Tryz.prog (Ad pu i9):=R2 (gg:=true) (c:=T5) i8 rS rfl rK
theorem rZ:Oe Tryz.prog (λf => !pu f) 1000 100 235=true:=by kernel_rfl
theorem rm (a:Ty.den T5) (l:List (Ty.den T5)):PZ Tryz.prog (Ad pu i9) (Qq []) 3000 60 235 [(false,(.sl true T5))] true T5 (a::l)=TP (a::l):=by kernel_rfl
def jB:List (FuncId×Sg):=(235+Cq,⟨[(false,(.sl true T5))],[(false,(.sl true T5))],TP⟩)::i9
theorem jC:TabOK Tryz.prog (Ad pu jB):=R3 (gg:=true) (c:=T5) jA rZ rfl (λa l y h=>Re h) rm
def oI:List (Nat×Nat×Nat×An):=[(233,6,26,.loop { keep:=[0,3,15,23,11,19,17,13,2,4,24,12,6,10,14,22],kb:=[0,7],pl:=[.slot 7 false zJ,.srow 5 false zJ true,.box 20 [.ow true T5 false,.ow false zJ true,.lf zJ]],ex:=[(.exit 0,[])],pay:=.unit })]
theorem rI (x:AP [(false,(.sl true T5))]):OE Tryz.prog (Ad pu jB) (Qq oI) 3000 60 233 [(false,(.sl true T5))] [(true,T7)] x=V9 x:=by kernel_rfl
def jD:List (FuncId×Sg):=(233,⟨[(false,(.sl true T5))],[(true,T7)],V9⟩)::jB
theorem jE:TabOK Tryz.prog (Ad pu jD):=R1 jC rI
theorem qz (x:AP [(false,(.sl true T5))]):OE Tryz.prog (Ad pu jD) (Qq []) 3000 60 223 [(false,(.sl true T5))] [(true,T7),zI] x=Ug x:=by kernel_rfl
def jF:List (FuncId×Sg):=(223,⟨[(false,(.sl true T5))],[(true,T7),zI],Ug⟩)::jD
theorem jG:TabOK Tryz.prog (Ad pu jF):=R1 jE qz
def nj:List (Nat×Nat×Nat×An):=[(207,3,47,.loop { keep:=[0,1,11,13,4,10,14],kb:=[0,39,27,13,30],pl:=[.slot 15 false zJ,.srow 5 true T5 true],ex:=[(.exit 0,[])],pay:=.unit })]
theorem qP (x:AP [(false,(.sl false (.sl true T2))),(false,.bool)]):OE Tryz.prog (Ad pu jF) (Qq nj) 3000 60 180 [(false,(.sl false (.sl true T2))),(false,.bool)] [(true,Xc),zI,zI] x=V1 x:=by kernel_rfl
def jH:List (FuncId×Sg):=(180,⟨[(false,(.sl false (.sl true T2))),(false,.bool)],[(true,Xc),zI,zI],V1⟩)::jF
theorem jI:TabOK Tryz.prog (Ad pu jH):=R1 jG qP
theorem po (x:AP [(true,T4),zI,(false,.bool)]):OE Tryz.prog (Ad pu jH) (Qq []) 3000 60 145 [(true,T4),zI,(false,.bool)] [(true,YQ)] x=Uf x:=by kernel_rfl
def jJ:List (FuncId×Sg):=(145,⟨[(true,T4),zI,(false,.bool)],[(true,YQ)],Uf⟩)::jH
theorem jK:TabOK Tryz.prog (Ad pu jJ):=R1 jI po
def oD:List (Nat×Nat×Nat×An):=[(207,3,8,.loop { keep:=[0,1,11,13,4,10,14],kb:=[0],pl:=[.slot 15 false zJ,.srow 5 true T5 true],ex:=[(.exit 0,[])],pay:=.unit })]
theorem qo (x:AP [(false,(.sl false (.sl true T2))),(false,(.sl false zJ))]):OE Tryz.prog (Ad pu jJ) (Qq oD) 3000 60 207 [(false,(.sl false (.sl true T2))),(false,(.sl false zJ))] [(true,T7)] x=Wk x:=by kernel_rfl
def jL:List (FuncId×Sg):=(1048783,⟨[(false,(.sl false (.sl true T2))),(false,(.sl false zJ))],[(true,T7)],Wk⟩)::jJ
theorem jM:TabOK Tryz.prog (Ad pu jL):=R1 jK qo
def nl:List (Nat×Nat×Nat×An):=[(184,4,9,.loop { keep:=[0,1,7,11,9,8,12,6,10],kb:=[],pl:=[.slot 13 false zJ,.slot 4 false .bool],ex:=[(.ret,[]),(.exit 0,[])],pay:=.unit })]
theorem qS (x:AP [(false,(.sl true T5)),(false,(.sl true T5))]):OE Tryz.prog (Ad pu jL) (Qq nl) 3000 60 184 [(false,(.sl true T5)),(false,(.sl true T5))] [(false,.bool)] x=TQ x:=by kernel_rfl
def jN:List (FuncId×Sg):=(184,⟨[(false,(.sl true T5)),(false,(.sl true T5))],[(false,.bool)],TQ⟩)::jL
theorem jO:TabOK Tryz.prog (Ad pu jN):=R1 jM qS
def nk:List (Nat×Nat×Nat×An):=[(183,4,9,.loop { keep:=[0,1,7,11,9,8,12,6,10],kb:=[],pl:=[.slot 13 false zJ,.slot 4 false .bool],ex:=[(.ret,[]),(.exit 0,[])],pay:=.unit })]
theorem qR (x:AP [(false,(.sl false zJ)),(false,(.sl false zJ))]):OE Tryz.prog (Ad pu jN) (Qq nk) 3000 60 183 [(false,(.sl false zJ)),(false,(.sl false zJ))] [(false,.bool)] x=TK x:=by kernel_rfl
def jP:List (FuncId×Sg):=(183,⟨[(false,(.sl false zJ)),(false,(.sl false zJ))],[(false,.bool)],TK⟩)::jN
theorem jQ:TabOK Tryz.prog (Ad pu jP):=R1 jO qR
theorem qn (x:AP [(true,T7),(true,T7)]):OE Tryz.prog (Ad pu jP) (Qq []) 3000 60 206 [(true,T7),(true,T7)] [(false,.bool)] x=Vm x:=by kernel_rfl
def jR:List (FuncId×Sg):=(206,⟨[(true,T7),(true,T7)],[(false,.bool)],Vm⟩)::jP
theorem jS:TabOK Tryz.prog (Ad pu jR):=R1 jQ qn
def oJ:List (Nat×Nat×Nat×An):=[(234,8,25,.loop { keep:=[0,1,15,23,11,19,5,9,17,25,21,4,8,16,24,12,20,10,18,26,14,22],kb:=[0,19],pl:=[.slot 3 false zJ,.slot 27 false zJ,.slot 2 false zJ],ex:=[(.ret,[]),(.exit 0,[])],pay:=.unit })]
theorem rJ (x:AP [(true,T7)]):OE Tryz.prog (Ad pu jR) (Qq oJ) 3000 60 234 [(true,T7)] [zI,zI] x=WO x:=by kernel_rfl
def jT:List (FuncId×Sg):=(234,⟨[(true,T7)],[zI,zI],WO⟩)::jR
theorem jU:TabOK Tryz.prog (Ad pu jT):=R1 jS rJ
theorem q9 (x:AP [(true,T7)]):OE Tryz.prog (Ad pu jT) (Qq []) 3000 60 224 [(true,T7)] [zI] x=V8 x:=by kernel_rfl
def jV:List (FuncId×Sg):=(224,⟨[(true,T7)],[zI],V8⟩)::jT
theorem jW:TabOK Tryz.prog (Ad pu jV):=R1 jU q9
end Go.Proofs.YtfilfloanndddaaGreat.Pt
