/- The evaluator comes to each of the plain functions. No condition. -/
import Derived.Test.YtfilfloanndddaaGreatPt2
set_option linter.all false
namespace Go.Proofs.YtfilfloanndddaaGreat.Pt
open Go Go.Proofs.YtfilfloanndddaaGreat.Sv Go.Proofs.YtfilfloanndddaaGreat.Pl
set_option maxRecDepth 1000000
set_option linter.unusedVariables false
theorem rR (x:AP [(true,T5)]):OE Tryz.prog (Ad pu jG) (Qq []) 3000 60 238 [(true,T5)] [(false,.bool)] x=VA x:=by kernel_rfl
def jI:List (FuncId×Sg):=(238,⟨[(true,T5)],[(false,.bool)],VA⟩)::jG
theorem jJ:TabOK Tryz.prog (Ad pu jI):=R1 jH rR
def oT:List (Nat×Nat×Nat×An):=[(240,2,22,.loop { keep:=[0,1,7,6],kb:=[],pl:=[.slot 4 false zJ,.slot 8 false zJ],ex:=[(.ret,[]),(.exit 0,[])],pay:=.unit })]
theorem rM (x:AP [(false,(.sl true T5))]):OE Tryz.prog (Ad pu jI) (Qq oT) 3000 60 232 [(false,(.sl true T5))] [zI] x=VK x:=by kernel_rfl
def jK:List (FuncId×Sg):=(232,⟨[(false,(.sl true T5))],[zI],VK⟩)::jI
theorem jL:TabOK Tryz.prog (Ad pu jK):=R1 jJ rM
theorem ra:L1 Tryz.prog (λf => !pu f) 1000 100 235=true:=by kernel_rfl
theorem rQ (a:Ty.den T5) (l:List (Ty.den T5)):OE Tryz.prog (Ad pu jK) (Qq []) 3000 60 235 [(false,(.sl true T5))] [(false,(.sl true T5))] (a::l)=TS (a::l):=by kernel_rfl
def jM:List (FuncId×Sg):=(235,⟨[(false,(.sl true T5))],[(false,(.sl true T5))],TS⟩)::jK
theorem jN:TabOK Tryz.prog (Ad pu jM):=R2 (gg:=true) (c:=T5) jL ra rfl rQ
theorem rp:Oe Tryz.prog (λf => !pu f) 1000 100 235=true:=by kernel_rfl
theorem rx (a:Ty.den T5) (l:List (Ty.den T5)):PZ Tryz.prog (Ad pu jM) (Qq []) 3000 60 235 [(false,(.sl true T5))] true T5 (a::l)=TS (a::l):=by kernel_rfl
def jO:List (FuncId×Sg):=(235+Cq,⟨[(false,(.sl true T5))],[(false,(.sl true T5))],TS⟩)::jM
theorem jP:TabOK Tryz.prog (Ad pu jO):=R3 (gg:=true) (c:=T5) jN rp rfl (λa l y h=>Re h) rx
def oU:List (Nat×Nat×Nat×An):=[(233,6,26,.loop { keep:=[0,3,15,23,11,19,17,13,2,4,24,12,6,10,14,22],kb:=[0,7],pl:=[.slot 7 false zJ,.srow 5 false zJ true,.box 20 [.ow true T5 false,.ow false zJ true,.lf zJ]],ex:=[(.exit 0,[])],pay:=.unit })]
theorem rN (x:AP [(false,(.sl true T5))]):OE Tryz.prog (Ad pu jO) (Qq oU) 3000 60 233 [(false,(.sl true T5))] [(true,T7)] x=WD x:=by kernel_rfl
def jQ:List (FuncId×Sg):=(233,⟨[(false,(.sl true T5))],[(true,T7)],WD⟩)::jO
theorem jR:TabOK Tryz.prog (Ad pu jQ):=R1 jP rN
theorem rE (x:AP [(false,(.sl true T5))]):OE Tryz.prog (Ad pu jQ) (Qq []) 3000 60 223 [(false,(.sl true T5))] [(true,T7),zI] x=Uf x:=by kernel_rfl
def jS:List (FuncId×Sg):=(223,⟨[(false,(.sl true T5))],[(true,T7),zI],Uf⟩)::jQ
theorem jT:TabOK Tryz.prog (Ad pu jS):=R1 jR rE
def oB:List (Nat×Nat×Nat×An):=[(207,3,47,.loop { keep:=[0,1,11,13,4,10,14],kb:=[0,39,27,13,30],pl:=[.slot 15 false zJ,.srow 5 true T5 true],ex:=[(.exit 0,[])],pay:=.unit })]
theorem qU (x:AP [(false,(.sl false (.sl true T2))),(false,.bool)]):OE Tryz.prog (Ad pu jS) (Qq oB) 3000 60 180 [(false,(.sl false (.sl true T2))),(false,.bool)] [(true,Xg),zI,zI] x=V7 x:=by kernel_rfl
def jU:List (FuncId×Sg):=(180,⟨[(false,(.sl false (.sl true T2))),(false,.bool)],[(true,Xg),zI,zI],V7⟩)::jS
theorem jV:TabOK Tryz.prog (Ad pu jU):=R1 jT qU
theorem pz (x:AP [(true,T4),zI,(false,.bool)]):OE Tryz.prog (Ad pu jU) (Qq []) 3000 60 145 [(true,T4),zI,(false,.bool)] [(true,Yn)] x=Ue x:=by kernel_rfl
def jW:List (FuncId×Sg):=(145,⟨[(true,T4),zI,(false,.bool)],[(true,Yn)],Ue⟩)::jU
theorem jX:TabOK Tryz.prog (Ad pu jW):=R1 jV pz
def oO:List (Nat×Nat×Nat×An):=[(207,3,8,.loop { keep:=[0,1,11,13,4,10,14],kb:=[0],pl:=[.slot 15 false zJ,.srow 5 true T5 true],ex:=[(.exit 0,[])],pay:=.unit })]
theorem qv (x:AP [(false,(.sl false (.sl true T2))),(false,(.sl false zJ))]):OE Tryz.prog (Ad pu jW) (Qq oO) 3000 60 207 [(false,(.sl false (.sl true T2))),(false,(.sl false zJ))] [(true,T7)] x=Wk x:=by kernel_rfl
def jY:List (FuncId×Sg):=(1048783,⟨[(false,(.sl false (.sl true T2))),(false,(.sl false zJ))],[(true,T7)],Wk⟩)::jW
theorem jZ:TabOK Tryz.prog (Ad pu jY):=R1 jX qv
def oD:List (Nat×Nat×Nat×An):=[(184,4,9,.loop { keep:=[0,1,7,11,9,8,12,6,10],kb:=[],pl:=[.slot 13 false zJ,.slot 4 false .bool],ex:=[(.ret,[]),(.exit 0,[])],pay:=.unit })]
theorem qX (x:AP [(false,(.sl true T5)),(false,(.sl true T5))]):OE Tryz.prog (Ad pu jY) (Qq oD) 3000 60 184 [(false,(.sl true T5)),(false,(.sl true T5))] [(false,.bool)] x=TT x:=by kernel_rfl
def ja:List (FuncId×Sg):=(184,⟨[(false,(.sl true T5)),(false,(.sl true T5))],[(false,.bool)],TT⟩)::jY
theorem jc:TabOK Tryz.prog (Ad pu ja):=R1 jZ qX
def oC:List (Nat×Nat×Nat×An):=[(183,4,9,.loop { keep:=[0,1,7,11,9,8,12,6,10],kb:=[],pl:=[.slot 13 false zJ,.slot 4 false .bool],ex:=[(.ret,[]),(.exit 0,[])],pay:=.unit })]
theorem qW (x:AP [(false,(.sl false zJ)),(false,(.sl false zJ))]):OE Tryz.prog (Ad pu ja) (Qq oC) 3000 60 183 [(false,(.sl false zJ)),(false,(.sl false zJ))] [(false,.bool)] x=TL x:=by kernel_rfl
def jd:List (FuncId×Sg):=(183,⟨[(false,(.sl false zJ)),(false,(.sl false zJ))],[(false,.bool)],TL⟩)::ja
theorem je:TabOK Tryz.prog (Ad pu jd):=R1 jc qW
theorem qu (x:AP [(true,T7),(true,T7)]):OE Tryz.prog (Ad pu jd) (Qq []) 3000 60 206 [(true,T7),(true,T7)] [(false,.bool)] x=Vo x:=by kernel_rfl
def jf:List (FuncId×Sg):=(206,⟨[(true,T7),(true,T7)],[(false,.bool)],Vo⟩)::jd
theorem jg:TabOK Tryz.prog (Ad pu jf):=R1 je qu
def oV:List (Nat×Nat×Nat×An):=[(234,8,25,.loop { keep:=[0,1,15,23,11,19,5,9,17,25,21,4,8,16,24,12,20,10,18,26,14,22],kb:=[0,19],pl:=[.slot 3 false zJ,.slot 27 false zJ,.slot 2 false zJ],ex:=[(.ret,[]),(.exit 0,[])],pay:=.unit })]
theorem rO (x:AP [(true,T7)]):OE Tryz.prog (Ad pu jf) (Qq oV) 3000 60 234 [(true,T7)] [zI,zI] x=WP x:=by kernel_rfl
def jh:List (FuncId×Sg):=(234,⟨[(true,T7)],[zI,zI],WP⟩)::jf
theorem ji:TabOK Tryz.prog (Ad pu jh):=R1 jg rO
theorem rF (x:AP [(true,T7)]):OE Tryz.prog (Ad pu jh) (Qq []) 3000 60 224 [(true,T7)] [zI] x=WC x:=by kernel_rfl
def jj:List (FuncId×Sg):=(224,⟨[(true,T7)],[zI],WC⟩)::jh
theorem jk:TabOK Tryz.prog (Ad pu jj):=R1 ji rF
end Go.Proofs.YtfilfloanndddaaGreat.Pt
