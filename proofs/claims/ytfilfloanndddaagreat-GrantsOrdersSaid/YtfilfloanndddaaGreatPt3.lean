/- The evaluator comes to each of the plain functions. No condition. -/
import Derived.Test.YtfilfloanndddaaGreatPt2
set_option linter.all false
namespace Go.Proofs.YtfilfloanndddaaGreat.Pt
open Go Go.Proofs.YtfilfloanndddaaGreat.Sv Go.Proofs.YtfilfloanndddaaGreat.Pl
set_option maxRecDepth 1000000
set_option linter.unusedVariables false
theorem pJ (x:AP [(true,T5)]):OE Tryz.prog (Ad pu g9) (Qq []) 3000 60 238 [(true,T5)] [(false,.bool)] x=U7 x:=by kernel_rfl
def hG:List (FuncId×Sg):=(238,⟨[(true,T5)],[(false,.bool)],U7⟩)::g9
theorem iA:TabOK Tryz.prog (Ad pu hG):=R1 hC pJ
def mf:List (Nat×Nat×Nat×An):=[(240,2,22,.loop { keep:=[0,1,7,6],kb:=[],pl:=[.slot 4 false zJ,.slot 8 false zJ],ex:=[(.ret,[]),(.exit 0,[])],pay:=.unit })]
theorem pF (x:AP [(false,(.sl true T5))]):OE Tryz.prog (Ad pu hG) (Qq mf) 3000 60 232 [(false,(.sl true T5))] [zI] x=VF x:=by kernel_rfl
def iB:List (FuncId×Sg):=(232,⟨[(false,(.sl true T5))],[zI],VF⟩)::hG
theorem iC:TabOK Tryz.prog (Ad pu iB):=R1 iA pF
theorem pP:L1 Tryz.prog (λf => !pu f) 1000 100 235=true:=by kernel_rfl
theorem pI (a:Ty.den T5) (l:List (Ty.den T5)):OE Tryz.prog (Ad pu iB) (Qq []) 3000 60 235 [(false,(.sl true T5))] [(false,(.sl true T5))] (a::l)=TQ (a::l):=by kernel_rfl
def iD:List (FuncId×Sg):=(235,⟨[(false,(.sl true T5))],[(false,(.sl true T5))],TQ⟩)::iB
theorem iE:TabOK Tryz.prog (Ad pu iD):=R2 (gg:=true) (c:=T5) iC pP rfl pI
theorem pU:Oe Tryz.prog (λf => !pu f) 1000 100 235=true:=by kernel_rfl
theorem pY (a:Ty.den T5) (l:List (Ty.den T5)):PZ Tryz.prog (Ad pu iD) (Qq []) 3000 60 235 [(false,(.sl true T5))] true T5 (a::l)=TQ (a::l):=by kernel_rfl
def iF:List (FuncId×Sg):=(235+Cq,⟨[(false,(.sl true T5))],[(false,(.sl true T5))],TQ⟩)::iD
theorem iG:TabOK Tryz.prog (Ad pu iF):=R3 (gg:=true) (c:=T5) iE pU rfl (λa l y h=>Re h) pY
def mg:List (Nat×Nat×Nat×An):=[(233,6,26,.loop { keep:=[0,3,15,23,11,19,17,13,2,4,24,12,6,10,14,22],kb:=[0,7],pl:=[.slot 7 false zJ,.srow 5 false zJ true,.box 20 [.ow true T5 false,.ow false zJ true,.lf zJ]],ex:=[(.exit 0,[])],pay:=.unit })]
theorem pG (x:AP [(false,(.sl true T5))]):OE Tryz.prog (Ad pu iF) (Qq mg) 3000 60 233 [(false,(.sl true T5))] [(true,T7)] x=V0 x:=by kernel_rfl
def iH:List (FuncId×Sg):=(233,⟨[(false,(.sl true T5))],[(true,T7)],V0⟩)::iF
theorem iI:TabOK Tryz.prog (Ad pu iH):=R1 iG pG
theorem o7 (x:AP [(false,(.sl true T5))]):OE Tryz.prog (Ad pu iH) (Qq []) 3000 60 223 [(false,(.sl true T5))] [(true,T7),zI] x=Ue x:=by kernel_rfl
def iJ:List (FuncId×Sg):=(223,⟨[(false,(.sl true T5))],[(true,T7),zI],Ue⟩)::iH
theorem iK:TabOK Tryz.prog (Ad pu iJ):=R1 iI o7
def mN:List (Nat×Nat×Nat×An):=[(207,3,47,.loop { keep:=[0,1,11,13,4,10,14],kb:=[0,39,27,13,30],pl:=[.slot 15 false zJ,.srow 5 true T5 true],ex:=[(.exit 0,[])],pay:=.unit })]
theorem oL (x:AP [(false,(.sl false (.sl true T2))),(false,.bool)]):OE Tryz.prog (Ad pu iJ) (Qq mN) 3000 60 180 [(false,(.sl false (.sl true T2))),(false,.bool)] [(true,Z1),zI,zI] x=Vt x:=by kernel_rfl
def iL:List (FuncId×Sg):=(180,⟨[(false,(.sl false (.sl true T2))),(false,.bool)],[(true,Z1),zI,zI],Vt⟩)::iJ
theorem iM:TabOK Tryz.prog (Ad pu iL):=R1 iK oL
theorem np (x:AP [(true,T4),zI,(false,.bool)]):OE Tryz.prog (Ad pu iL) (Qq []) 3000 60 145 [(true,T4),zI,(false,.bool)] [(true,Yh)] x=Uc x:=by kernel_rfl
def iN:List (FuncId×Sg):=(145,⟨[(true,T4),zI,(false,.bool)],[(true,Yh)],Uc⟩)::iL
theorem iO:TabOK Tryz.prog (Ad pu iN):=R1 iM np
def mb:List (Nat×Nat×Nat×An):=[(207,3,8,.loop { keep:=[0,1,11,13,4,10,14],kb:=[0],pl:=[.slot 15 false zJ,.srow 5 true T5 true],ex:=[(.exit 0,[])],pay:=.unit })]
theorem oi (x:AP [(false,(.sl false (.sl true T2))),(false,(.sl false zJ))]):OE Tryz.prog (Ad pu iN) (Qq mb) 3000 60 207 [(false,(.sl false (.sl true T2))),(false,(.sl false zJ))] [(true,T7)] x=WX x:=by kernel_rfl
def iQ:List (FuncId×Sg):=(1048783,⟨[(false,(.sl false (.sl true T2))),(false,(.sl false zJ))],[(true,T7)],WX⟩)::iN
theorem iR:TabOK Tryz.prog (Ad pu iQ):=R1 iO oi
def mQ:List (Nat×Nat×Nat×An):=[(184,4,9,.loop { keep:=[0,1,7,11,9,8,12,6,10],kb:=[],pl:=[.slot 13 false zJ,.slot 4 false .bool],ex:=[(.ret,[]),(.exit 0,[])],pay:=.unit })]
theorem oO (x:AP [(false,(.sl true T5)),(false,(.sl true T5))]):OE Tryz.prog (Ad pu iQ) (Qq mQ) 3000 60 184 [(false,(.sl true T5)),(false,(.sl true T5))] [(false,.bool)] x=TS x:=by kernel_rfl
def iS:List (FuncId×Sg):=(184,⟨[(false,(.sl true T5)),(false,(.sl true T5))],[(false,.bool)],TS⟩)::iQ
theorem iT:TabOK Tryz.prog (Ad pu iS):=R1 iR oO
def mO:List (Nat×Nat×Nat×An):=[(183,4,9,.loop { keep:=[0,1,7,11,9,8,12,6,10],kb:=[],pl:=[.slot 13 false zJ,.slot 4 false .bool],ex:=[(.ret,[]),(.exit 0,[])],pay:=.unit })]
theorem oN (x:AP [(false,(.sl false zJ)),(false,(.sl false zJ))]):OE Tryz.prog (Ad pu iS) (Qq mO) 3000 60 183 [(false,(.sl false zJ)),(false,(.sl false zJ))] [(false,.bool)] x=TJ x:=by kernel_rfl
def iU:List (FuncId×Sg):=(183,⟨[(false,(.sl false zJ)),(false,(.sl false zJ))],[(false,.bool)],TJ⟩)::iS
theorem iV:TabOK Tryz.prog (Ad pu iU):=R1 iT oN
theorem oh (x:AP [(true,T7),(true,T7)]):OE Tryz.prog (Ad pu iU) (Qq []) 3000 60 206 [(true,T7),(true,T7)] [(false,.bool)] x=Vd x:=by kernel_rfl
def iW:List (FuncId×Sg):=(206,⟨[(true,T7),(true,T7)],[(false,.bool)],Vd⟩)::iU
theorem iX:TabOK Tryz.prog (Ad pu iW):=R1 iV oh
def mh:List (Nat×Nat×Nat×An):=[(234,8,25,.loop { keep:=[0,1,15,23,11,19,5,9,17,25,21,4,8,16,24,12,20,10,18,26,14,22],kb:=[0,19],pl:=[.slot 3 false zJ,.slot 27 false zJ,.slot 2 false zJ],ex:=[(.ret,[]),(.exit 0,[])],pay:=.unit })]
theorem pH (x:AP [(true,T7)]):OE Tryz.prog (Ad pu iW) (Qq mh) 3000 60 234 [(true,T7)] [zI,zI] x=V9 x:=by kernel_rfl
def iY:List (FuncId×Sg):=(234,⟨[(true,T7)],[zI,zI],V9⟩)::iW
theorem iZ:TabOK Tryz.prog (Ad pu iY):=R1 iX pH
theorem o8 (x:AP [(true,T7)]):OE Tryz.prog (Ad pu iY) (Qq []) 3000 60 224 [(true,T7)] [zI] x=Vz x:=by kernel_rfl
def ib:List (FuncId×Sg):=(224,⟨[(true,T7)],[zI],Vz⟩)::iY
theorem ic:TabOK Tryz.prog (Ad pu ib):=R1 iZ o8
end Go.Proofs.YtfilfloanndddaaGreat.Pt
