/- The evaluator comes to each of the plain functions. No condition. -/
import Derived.Test.YthpkjfabdccpdaaGreatPt3
set_option linter.all false
namespace Go.Proofs.YthpkjfabdccpdaaGreat.Pt
open Go Go.Proofs.YthpkjfabdccpdaaGreat.Sv Go.Proofs.YthpkjfabdccpdaaGreat.Pl
set_option maxRecDepth 1000000
set_option linter.unusedVariables false
def mV:List (Nat×Nat×Nat×An):=[(215,6,17,.loop { keep:=[0,1,3,15,11,19,5,9,17,13,2,4,12,10,18,14],kb:=[0],pl:=[.slot 20 false zJ,.slot 6 false zJ],ex:=[(.exit 0,[])],pay:=.unit })]
theorem pJ (x:AG [(true,T9)]):Ab Tryz.prog (AD pu e8) (AJ mV) 3000 60 215 [(true,T9)] [zI,zI] x=GV x:=by kernel_rfl
def fA:List (FuncId×Sg):=(215,⟨[(true,T9)],[zI,zI],GV⟩)::e8
theorem fB:TabOK Tryz.prog (AD pu fA):=AF e9 pJ
theorem pK (x:AG [(true,Ii)]):Ab Tryz.prog (AD pu fA) (AJ []) 3000 60 167 [(true,Ii)] [zI,zI] x=B5 x:=by kernel_rfl
def fC:List (FuncId×Sg):=(167,⟨[(true,Ii)],[zI,zI],B5⟩)::fA
theorem fD:TabOK Tryz.prog (AD pu fC):=AF fB pK
theorem pL (x:AG [(true,T9)]):Ab Tryz.prog (AD pu fC) (AJ []) 3000 60 245 [(true,T9)] [(true,T2),zI,(true,T9),zI] x=B8 x:=by kernel_rfl
def fE:List (FuncId×Sg):=(245,⟨[(true,T9)],[(true,T2),zI,(true,T9),zI],B8⟩)::fC
theorem fF:TabOK Tryz.prog (AD pu fE):=AF fD pL
theorem pM (x:AG [(true,Ps),(true,T2)]):Ab Tryz.prog (AD pu fE) (AJ []) 3000 60 246 [(true,Ps),(true,T2)] [(false,.bool),(true,Ps),zI] x=CE x:=by kernel_rfl
def fG:List (FuncId×Sg):=(246,⟨[(true,Ps),(true,T2)],[(false,.bool),(true,Ps),zI],CE⟩)::fE
theorem fH:TabOK Tryz.prog (AD pu fG):=AF fF pM
def mW:List (Nat×Nat×Nat×An):=[(216,2,81,.loop { keep:=[0,1,6],kb:=[0,1,39,67,68],pl:=[.slot 7 false zJ,.slot 4 false zJ,.box 28 [.lf (.sl false (.sl true T2)),.lf (.sl false zJ),.lf (.sl true T5),.lf (.sl false zJ),.lf zJ,.lf .bool,.lf .str,.lf .bool,.ow true T2 false,.lf zJ]],ex:=[(.ret,[]),(.exit 0,[])],pay:=.unit }),(216,2,98,.loop { keep:=[0,1,6],kb:=[0,1,39,67,68,86],pl:=[.slot 7 false zJ,.slot 4 false zJ,.box 28 [.lf (.sl false (.sl true T2)),.lf (.sl false zJ),.lf (.sl true T5),.lf (.sl false zJ),.lf zJ,.lf .bool,.lf .str,.lf .bool,.ow true T2 false,.lf zJ]],ex:=[(.ret,[]),(.exit 0,[])],pay:=.unit }),(216,2,133,.loop { keep:=[0,1,6],kb:=[0,1,39,67,68,86],pl:=[.slot 7 false zJ,.slot 4 false zJ,.box 28 [.lf (.sl false (.sl true T2)),.lf (.sl false zJ),.lf (.sl true T5),.lf (.sl false zJ),.lf zJ,.lf .bool,.lf .str,.lf .bool,.ow true T2 false,.lf zJ]],ex:=[(.ret,[]),(.exit 0,[])],pay:=.unit }),(216,2,120,.loop { keep:=[0,1,6],kb:=[0,1,39,67,68,86],pl:=[.slot 7 false zJ,.slot 4 false zJ,.box 28 [.lf (.sl false (.sl true T2)),.lf (.sl false zJ),.lf (.sl true T5),.lf (.sl false zJ),.lf zJ,.lf .bool,.lf .str,.lf .bool,.ow true T2 false,.lf zJ]],ex:=[(.ret,[]),(.exit 0,[])],pay:=.unit })]
theorem pN (x:AG [(true,Ii),zI]):Ab Tryz.prog (AD pu fG) (AJ mW) 3000 60 175 [(true,Ii),zI] [(true,Ii),zI,zI] x=CY x:=by kernel_rfl
def fI:List (FuncId×Sg):=(175,⟨[(true,Ii),zI],[(true,Ii),zI,zI],CY⟩)::fG
theorem fJ:TabOK Tryz.prog (AD pu fI):=AF fH pN
def mX:List (Nat×Nat×Nat×An):=[(248,4,9,.loop { keep:=[0,1,7,11,9,8,12,6,10],kb:=[],pl:=[.slot 13 false zJ,.slot 4 false .bool],ex:=[(.ret,[]),(.exit 0,[])],pay:=.unit })]
theorem pO (x:AG [(false,(.sl true T2)),(false,(.sl true T2))]):Ab Tryz.prog (AD pu fI) (AJ mX) 3000 60 248 [(false,(.sl true T2)),(false,(.sl true T2))] [(false,.bool)] x=BQ x:=by kernel_rfl
def fK:List (FuncId×Sg):=(248,⟨[(false,(.sl true T2)),(false,(.sl true T2))],[(false,.bool)],BQ⟩)::fI
theorem fL:TabOK Tryz.prog (AD pu fK):=AF fJ pO
theorem pP (x:AG [(false,(.sl true T2)),(false,(.sl true T2))]):Ab Tryz.prog (AD pu fK) (AJ []) 3000 60 222 [(false,(.sl true T2)),(false,(.sl true T2))] [(false,.bool)] x=Br x:=by kernel_rfl
def fM:List (FuncId×Sg):=(222,⟨[(false,(.sl true T2)),(false,(.sl true T2))],[(false,.bool)],Br⟩)::fK
theorem fN:TabOK Tryz.prog (AD pu fM):=AF fL pP
def mY:List (Nat×Nat×Nat×An):=[(221,4,81,.loop { keep:=[0,1,15,11,13,2,16,12,10,14],kb:=[0,1,7,8],pl:=[.slot 17 false zJ,.slot 6 false .bool],ex:=[(.ret,[]),(.exit 0,[])],pay:=.unit })]
theorem pQ (x:AG [(true,Ii),(true,Ii)]):Ab Tryz.prog (AD pu fM) (AJ mY) 3000 60 183 [(true,Ii),(true,Ii)] [(false,.bool)] x=DW x:=by kernel_rfl
def fO:List (FuncId×Sg):=(183,⟨[(true,Ii),(true,Ii)],[(false,.bool)],DW⟩)::fM
theorem fQ:TabOK Tryz.prog (AD pu fO):=AF fN pQ
def mZ:List (Nat×Nat×Nat×An):=[(219,1,52,.loop { keep:=[0,1,7,5,6],kb:=[0,47,35,46],pl:=[.slot 8 false zJ,.box 43 [.ow false zJ false]],ex:=[(.exit 0,[(47,0,none)])],pay:=.unit }),(107,10,59,.loop { keep:=[0,1,15,31,47,23,39,19,35,27,43,17,33,25,41,21,37,29,45,4,16,32,40,20,36,28,44,18,34,26,42,14,22,38,30,46],kb:=[0,47,35,43,52],pl:=[.slot 3 false zJ,.slot 2 false zJ,.slot 48 false zJ],ex:=[(.ret,[(47,3,none)]),(.exit 1,[(47,3,none)])],pay:=.unit })]
theorem pR (x:AG [(true,K7)]):Ab Tryz.prog (AD pu fO) (AJ mZ) 3000 60 107 [(true,K7)] [zI,zI] x=Bv x:=by kernel_rfl
def fR:List (FuncId×Sg):=(107,⟨[(true,K7)],[zI,zI],Bv⟩)::fO
theorem fS:TabOK Tryz.prog (AD pu fR):=AF fQ pR
theorem rp (x:AG [(true,GC)]):Ab Tryz.prog (AD pu fR) (AJ []) 3000 60 56 [(true,GC)] [zI,zI] x=HZ x:=by kernel_rfl
def fT:List (FuncId×Sg):=(56,⟨[(true,GC)],[zI,zI],HZ⟩)::fR
theorem fU:TabOK Tryz.prog (AD pu fT):=AF fS rp
theorem rq (x:AG [(false,.str),zI]):Ab Tryz.prog (AD pu fT) (AJ []) 3000 60 62 [(false,.str),zI] [(true,T2)] x=D8 x:=by kernel_rfl
def fV:List (FuncId×Sg):=(62,⟨[(false,.str),zI],[(true,T2)],D8⟩)::fT
theorem fW:TabOK Tryz.prog (AD pu fV):=AF fU rq
def ma:List (Nat×Nat×Nat×An):=[(208,7,17,.loop { keep:=[0,1,15,11,19,5,13,21,2,16,12,20,6,10,18,14,22],kb:=[0],pl:=[.slot 23 false zJ,.slot 4 false zJ],ex:=[(.ret,[]),(.exit 0,[])],pay:=.unit })]
theorem pT (x:AG [(true,T3),(false,(.sl true T2))]):Ab Tryz.prog (AD pu fV) (AJ ma) 3000 60 208 [(true,T3),(false,(.sl true T2))] [zI] x=D6 x:=by kernel_rfl
def fX:List (FuncId×Sg):=(208,⟨[(true,T3),(false,(.sl true T2))],[zI],D6⟩)::fV
theorem fY:TabOK Tryz.prog (AD pu fX):=AF fW pT
def mb:List (Nat×Nat×Nat×An):=[(252,2,13,.loop { keep:=[0,1,4,8],kb:=[0,1],pl:=[.slot 5 false zJ,.slot 6 false zJ],ex:=[(.exit 0,[])],pay:=.unit })]
theorem pU (x:AG [(false,(.sl true T2)),(false,.str)]):Ab Tryz.prog (AD pu fX) (AJ mb) 3000 60 237 [(false,(.sl true T2)),(false,.str)] [zI,(false,.bool)] x=Dn x:=by kernel_rfl
def fZ:List (FuncId×Sg):=(237,⟨[(false,(.sl true T2)),(false,.str)],[zI,(false,.bool)],Dn⟩)::fX
theorem fa:TabOK Tryz.prog (AD pu fZ):=AF fY pU
def mc:List (Nat×Nat×Nat×An):=[(209,4,16,.loop { keep:=[0,1,15,11,19,13,2,16,12,18],kb:=[0],pl:=[.slot 5 false zJ,.swin 4 true T2,.slot 20 false zJ,.slot 6 false .bool],ex:=[(.exit 0,[])],pay:=.unit })]
theorem pV (x:AG [(true,T3),(false,(.sl true T2))]):Ab Tryz.prog (AD pu fZ) (AJ mc) 3000 60 209 [(true,T3),(false,(.sl true T2))] [(false,(.sl true T2)),zI,(false,.bool)] x=DE x:=by kernel_rfl
def fb:List (FuncId×Sg):=(209,⟨[(true,T3),(false,(.sl true T2))],[(false,(.sl true T2)),zI,(false,.bool)],DE⟩)::fZ
theorem fc:TabOK Tryz.prog (AD pu fb):=AF fa pV
end Go.Proofs.YthpkjfabdccpdaaGreat.Pt
