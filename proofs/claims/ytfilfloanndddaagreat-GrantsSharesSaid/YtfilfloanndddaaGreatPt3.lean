/- The evaluator comes to each of the plain functions. No condition. -/
import Derived.Test.YtfilfloanndddaaGreatPt2
set_option linter.all false
namespace Go.Proofs.YtfilfloanndddaaGreat.Pt
open Go Go.Proofs.YtfilfloanndddaaGreat.Sv Go.Proofs.YtfilfloanndddaaGreat.Pl
set_option maxRecDepth 1000000
set_option linter.unusedVariables false
theorem qn (x:AH [(true,T5)]):Ac Tryz.prog (AC pu gE) (AK []) 3000 60 238 [(true,T5)] [(false,.bool)] x=Dd x:=by kernel_rfl
def gG:List (FuncId×Sg):=(238,⟨[(true,T5)],[(false,.bool)],Dd⟩)::gE
theorem gH:TabOK Tryz.prog (AC pu gG):=AF gF qn
def oR:List (Nat×Nat×Nat×An):=[(240,2,22,.loop { keep:=[0,1,7,6],kb:=[],pl:=[.slot 4 false zJ,.slot 8 false zJ],ex:=[(.ret,[]),(.exit 0,[])],pay:=.unit })]
theorem qo (x:AH [(false,(.sl true T5))]):Ac Tryz.prog (AC pu gG) (AK oR) 3000 60 232 [(false,(.sl true T5))] [zI] x=Dq x:=by kernel_rfl
def gI:List (FuncId×Sg):=(232,⟨[(false,(.sl true T5))],[zI],Dq⟩)::gG
theorem gJ:TabOK Tryz.prog (AC pu gI):=AF gH qo
theorem qp:ML Tryz.prog (λf => !pu f) 1000 100 235=true:=by kernel_rfl
theorem qq (a:Ty.den T5) (l:List (Ty.den T5)):Ac Tryz.prog (AC pu gI) (AK []) 3000 60 235 [(false,(.sl true T5))] [(false,(.sl true T5))] (a::l)=Ar (a::l):=by kernel_rfl
def gK:List (FuncId×Sg):=(235,⟨[(false,(.sl true T5))],[(false,(.sl true T5))],Ar⟩)::gI
theorem gL:TabOK Tryz.prog (AC pu gK):=NM (gg:=true) (c:=T5) gJ qp rfl qq
theorem qt:OI Tryz.prog (λf => !pu f) 1000 100 235=true:=by kernel_rfl
theorem qu (a:Ty.den T5) (l:List (Ty.den T5)):Pp Tryz.prog (AC pu gK) (AK []) 3000 60 235 [(false,(.sl true T5))] true T5 (a::l)=Ar (a::l):=by kernel_rfl
def gN:List (FuncId×Sg):=(235+GS,⟨[(false,(.sl true T5))],[(false,(.sl true T5))],Ar⟩)::gK
theorem gO:TabOK Tryz.prog (AC pu gN):=NN (gg:=true) (c:=T5) gL qt rfl (λa l y h=>NO h) qu
def oS:List (Nat×Nat×Nat×An):=[(233,6,26,.loop { keep:=[0,3,15,23,11,19,17,13,2,4,24,12,6,10,14,22],kb:=[0,7],pl:=[.slot 7 false zJ,.srow 5 false zJ true,.box 20 [.ow true T5 false,.ow false zJ true,.lf zJ]],ex:=[(.exit 0,[])],pay:=.unit })]
theorem qv (x:AH [(false,(.sl true T5))]):Ac Tryz.prog (AC pu gN) (AK oS) 3000 60 233 [(false,(.sl true T5))] [(true,T7)] x=FY x:=by kernel_rfl
def gP:List (FuncId×Sg):=(233,⟨[(false,(.sl true T5))],[(true,T7)],FY⟩)::gN
theorem gQ:TabOK Tryz.prog (AC pu gP):=AF gO qv
theorem qw (x:AH [(false,(.sl true T5))]):Ac Tryz.prog (AC pu gP) (AK []) 3000 60 223 [(false,(.sl true T5))] [(true,T7),zI] x=Cg x:=by kernel_rfl
def gR:List (FuncId×Sg):=(223,⟨[(false,(.sl true T5))],[(true,T7),zI],Cg⟩)::gP
theorem gS:TabOK Tryz.prog (AC pu gR):=AF gQ qw
def oT:List (Nat×Nat×Nat×An):=[(207,3,47,.loop { keep:=[0,1,11,13,4,10,14],kb:=[0,39,27,13,30],pl:=[.slot 15 false zJ,.srow 5 true T5 true],ex:=[(.exit 0,[])],pay:=.unit })]
theorem qx (x:AH [(false,(.sl false (.sl true T2))),(false,.bool)]):Ac Tryz.prog (AC pu gR) (AK oT) 3000 60 180 [(false,(.sl false (.sl true T2))),(false,.bool)] [(true,I6),zI,zI] x=FB x:=by kernel_rfl
def gT:List (FuncId×Sg):=(180,⟨[(false,(.sl false (.sl true T2))),(false,.bool)],[(true,I6),zI,zI],FB⟩)::gR
theorem gU:TabOK Tryz.prog (AC pu gT):=AF gS qx
theorem qy (x:AH [(true,T4),zI,(false,.bool)]):Ac Tryz.prog (AC pu gT) (AK []) 3000 60 145 [(true,T4),zI,(false,.bool)] [(true,Iu)] x=Ch x:=by kernel_rfl
def gV:List (FuncId×Sg):=(145,⟨[(true,T4),zI,(false,.bool)],[(true,Iu)],Ch⟩)::gT
theorem gW:TabOK Tryz.prog (AC pu gV):=AF gU qy
def oU:List (Nat×Nat×Nat×An):=[(207,3,8,.loop { keep:=[0,1,11,13,4,10,14],kb:=[0],pl:=[.slot 15 false zJ,.srow 5 true T5 true],ex:=[(.exit 0,[])],pay:=.unit })]
theorem qz (x:AH [(false,(.sl false (.sl true T2))),(false,(.sl false zJ))]):Ac Tryz.prog (AC pu gV) (AK oU) 3000 60 207 [(false,(.sl false (.sl true T2))),(false,(.sl false zJ))] [(true,T7)] x=Gn x:=by kernel_rfl
def gX:List (FuncId×Sg):=(1048783,⟨[(false,(.sl false (.sl true T2))),(false,(.sl false zJ))],[(true,T7)],Gn⟩)::gV
theorem gY:TabOK Tryz.prog (AC pu gX):=AF gW qz
def oV:List (Nat×Nat×Nat×An):=[(184,4,9,.loop { keep:=[0,1,7,11,9,8,12,6,10],kb:=[],pl:=[.slot 13 false zJ,.slot 4 false .bool],ex:=[(.ret,[]),(.exit 0,[])],pay:=.unit })]
theorem q9 (x:AH [(false,(.sl true T5)),(false,(.sl true T5))]):Ac Tryz.prog (AC pu gX) (AK oV) 3000 60 184 [(false,(.sl true T5)),(false,(.sl true T5))] [(false,.bool)] x=As x:=by kernel_rfl
def gZ:List (FuncId×Sg):=(184,⟨[(false,(.sl true T5)),(false,(.sl true T5))],[(false,.bool)],As⟩)::gX
theorem ga:TabOK Tryz.prog (AC pu gZ):=AF gY q9
def oW:List (Nat×Nat×Nat×An):=[(183,4,9,.loop { keep:=[0,1,7,11,9,8,12,6,10],kb:=[],pl:=[.slot 13 false zJ,.slot 4 false .bool],ex:=[(.ret,[]),(.exit 0,[])],pay:=.unit })]
theorem rB (x:AH [(false,(.sl false zJ)),(false,(.sl false zJ))]):Ac Tryz.prog (AC pu gZ) (AK oW) 3000 60 183 [(false,(.sl false zJ)),(false,(.sl false zJ))] [(false,.bool)] x=Ah x:=by kernel_rfl
def gb:List (FuncId×Sg):=(183,⟨[(false,(.sl false zJ)),(false,(.sl false zJ))],[(false,.bool)],Ah⟩)::gZ
theorem gf:TabOK Tryz.prog (AC pu gb):=AF ga rB
theorem rC (x:AH [(true,T7),(true,T7)]):Ac Tryz.prog (AC pu gb) (AK []) 3000 60 206 [(true,T7),(true,T7)] [(false,.bool)] x=En x:=by kernel_rfl
def gh:List (FuncId×Sg):=(206,⟨[(true,T7),(true,T7)],[(false,.bool)],En⟩)::gb
theorem gi:TabOK Tryz.prog (AC pu gh):=AF gf rC
def oX:List (Nat×Nat×Nat×An):=[(234,8,25,.loop { keep:=[0,1,15,23,11,19,5,9,17,25,21,4,8,16,24,12,20,10,18,26,14,22],kb:=[0,19],pl:=[.slot 3 false zJ,.slot 27 false zJ,.slot 2 false zJ],ex:=[(.ret,[]),(.exit 0,[])],pay:=.unit })]
theorem rD (x:AH [(true,T7)]):Ac Tryz.prog (AC pu gh) (AK oX) 3000 60 234 [(true,T7)] [zI,zI] x=Fq x:=by kernel_rfl
def gj:List (FuncId×Sg):=(234,⟨[(true,T7)],[zI,zI],Fq⟩)::gh
theorem gm:TabOK Tryz.prog (AC pu gj):=AF gi rD
theorem rE (x:AH [(true,T7)]):Ac Tryz.prog (AC pu gj) (AK []) 3000 60 224 [(true,T7)] [zI] x=Fa x:=by kernel_rfl
def gn:List (FuncId×Sg):=(224,⟨[(true,T7)],[zI],Fa⟩)::gj
theorem gp:TabOK Tryz.prog (AC pu gn):=AF gm rE
end Go.Proofs.YtfilfloanndddaaGreat.Pt
