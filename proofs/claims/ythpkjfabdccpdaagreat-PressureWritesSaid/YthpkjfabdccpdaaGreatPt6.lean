/- The evaluator comes to each of the plain functions. No condition. -/
import Derived.Test.YthpkjfabdccpdaaGreatPt5
set_option linter.all false
namespace Go.Proofs.YthpkjfabdccpdaaGreat.Pt
open Go Go.Proofs.YthpkjfabdccpdaaGreat.Sv Go.Proofs.YthpkjfabdccpdaaGreat.Pl
set_option maxRecDepth 1000000
set_option linter.unusedVariables false
theorem py (x:AG [(true,T2)]):Ab Tryz.prog (AD pu gJ) (AJ []) 3000 60 203 [(true,T2)] [zI] x=A1 x:=by kernel_rfl
def gL:List (FuncId×Sg):=(203,⟨[(true,T2)],[zI],A1⟩)::gJ
theorem gN:TabOK Tryz.prog (AD pu gL):=AF gK py
def me:List (Nat×Nat×Nat×An):=[(132,6,18,.loop { keep:=[0,1,7,15,11,19,9,17,13,8,16,12,6,10,18,14],kb:=[0],pl:=[.slot 3 false zJ,.slot 2 false zJ,.slot 4 false zJ],ex:=[(.ret,[]),(.exit 0,[])],pay:=.unit })]
theorem pz (x:AG [(true,T3)]):Ab Tryz.prog (AD pu gL) (AJ me) 3000 60 132 [(true,T3)] [zI,zI] x=Eb x:=by kernel_rfl
def gO:List (FuncId×Sg):=(132,⟨[(true,T3)],[zI,zI],Eb⟩)::gL
theorem gP:TabOK Tryz.prog (AD pu gO):=AF gN pz
def mf:List (Nat×Nat×Nat×An):=[(188,2,2,.loop { keep:=[1,4],kb:=[],pl:=[.slot 0 false zJ,.slot 5 false zJ],ex:=[(.exit 0,[])],pay:=.unit })]
theorem p8 (x:AG [zI,zI]):Ab Tryz.prog (AD pu gO) (AJ mf) 3000 60 188 [zI,zI] [zI] x=DY x:=by kernel_rfl
def gQ:List (FuncId×Sg):=(188,⟨[zI,zI],[zI],DY⟩)::gO
theorem gR:TabOK Tryz.prog (AD pu gQ):=AF gP p8
def mg:List (Nat×Nat×Nat×An):=[(249,2,2,.loop { keep:=[0,1,4],kb:=[],pl:=[.slot 5 false zJ],ex:=[(.exit 0,[])],pay:=.unit })]
theorem p9 (x:AG [(false,.str),(false,.str)]):Ab Tryz.prog (AD pu gQ) (AJ mg) 3000 60 249 [(false,.str),(false,.str)] [zI] x=E1 x:=by kernel_rfl
def gS:List (FuncId×Sg):=(249,⟨[(false,.str),(false,.str)],[zI],E1⟩)::gQ
theorem gT:TabOK Tryz.prog (AD pu gS):=AF gR p9
theorem qA (x:AG [(false,.str),(false,.str)]):Ab Tryz.prog (AD pu gS) (AJ []) 3000 60 225 [(false,.str),(false,.str)] [zI] x=EX x:=by kernel_rfl
def gU:List (FuncId×Sg):=(225,⟨[(false,.str),(false,.str)],[zI],EX⟩)::gS
theorem gV:TabOK Tryz.prog (AD pu gU):=AF gT qA
def mh:List (Nat×Nat×Nat×An):=[(185,4,6,.loop { keep:=[0,7,8,6],kb:=[],pl:=[.slot 3 false zJ,.slot 2 false zJ,.slot 4 false zJ],ex:=[(.ret,[]),(.exit 0,[])],pay:=.unit })]
theorem qB (x:AG [(false,(.sl true T2))]):Ab Tryz.prog (AD pu gU) (AJ mh) 3000 60 185 [(false,(.sl true T2))] [zI,zI] x=Ck x:=by kernel_rfl
def gW:List (FuncId×Sg):=(185,⟨[(false,(.sl true T2))],[zI,zI],Ck⟩)::gU
theorem gX:TabOK Tryz.prog (AD pu gW):=AF gV qB
theorem qC (x:AG [(true,T3)]):Ab Tryz.prog (AD pu gW) (AJ []) 3000 60 110 [(true,T3)] [zI,zI] x=EY x:=by kernel_rfl
def gY:List (FuncId×Sg):=(110,⟨[(true,T3)],[zI,zI],EY⟩)::gW
theorem gZ:TabOK Tryz.prog (AD pu gY):=AF gX qC
def mi:List (Nat×Nat×Nat×An):=[(187,9,21,.loop { keep:=[0,1,3,7,15,23,11,19,25,13,21,2,8,16,24,12,20,10,18,26,14,22],kb:=[0],pl:=[.slot 9 false zJ,.slot 6 false zJ],ex:=[(.ret,[]),(.exit 0,[])],pay:=.unit })]
theorem qD (x:AG [(true,T3),zI,(false,(.sl false zJ))]):Ab Tryz.prog (AD pu gY) (AJ mi) 3000 60 187 [(true,T3),zI,(false,(.sl false zJ))] [zI] x=DZ x:=by kernel_rfl
def ga:List (FuncId×Sg):=(187,⟨[(true,T3),zI,(false,(.sl false zJ))],[zI],DZ⟩)::gY
theorem gb:TabOK Tryz.prog (AD pu ga):=AF gZ qD
def mj:List (Nat×Nat×Nat×An):=[(112,7,18,.loop { keep:=[0,1,15,11,19,17,13,21,16,12,20,10,18,14],kb:=[0],pl:=[.slot 3 false zJ,.srow 5 false zJ false,.slot 2 false zJ,.slot 4 false zJ,.slot 6 false zJ],ex:=[(.ret,[]),(.exit 0,[])],pay:=.unit }),(112,13,35,.loop { keep:=[0,1,7,15,31,23,11,19,35,17,33,25,13,21,37,29,16,32,24,12,20,36,6,10,18,34,26,14,22,30],kb:=[0],pl:=[.slot 3 false zJ,.srow 5 false zJ false,.slot 2 false zJ,.slot 4 false zJ,.slot 8 false zJ],ex:=[(.ret,[]),(.exit 2,[])],pay:=.unit })]
theorem qE (x:AG [(true,T4)]):Ab Tryz.prog (AD pu ga) (AJ mj) 3000 60 112 [(true,T4)] [zI,zI,zI] x=Cw x:=by kernel_rfl
def gf:List (FuncId×Sg):=(112,⟨[(true,T4)],[zI,zI,zI],Cw⟩)::ga
theorem gh:TabOK Tryz.prog (AD pu gf):=AF gb qE
def ml:List (Nat×Nat×Nat×An):=[(120,6,16,.loop { keep:=[0,1,3,15,11,5,17,13,2,4,16,12,6,10,14],kb:=[0],pl:=[.srow 7 true T3 false,.slot 8 false zJ],ex:=[(.exit 0,[])],pay:=.unit }),(120,9,31,.loop { keep:=[0,1,3,15,31,23,11,19,27,5,17,33,13,21,29,2,4,8,16,32,12,20,28,6,10,26,14,22,30],kb:=[0],pl:=[.srow 7 true T3 false,.slot 9 false zJ],ex:=[(.exit 2,[])],pay:=.unit })]
theorem qF (x:AG [(true,T4)]):Ab Tryz.prog (AD pu gf) (AJ ml) 3000 60 120 [(true,T4)] [(false,(.sl true T3)),zI] x=D3 x:=by kernel_rfl
def gi:List (FuncId×Sg):=(120,⟨[(true,T4)],[(false,(.sl true T3)),zI],D3⟩)::gf
theorem gj:TabOK Tryz.prog (AD pu gi):=AF gh qF
def mo:List (Nat×Nat×Nat×An):=[(113,4,11,.loop { keep:=[0,1,3,7,11,9,2,4,8,10],kb:=[0],pl:=[.slot 5 false zJ,.slot 6 false zJ],ex:=[(.exit 0,[])],pay:=.unit })]
theorem qG (x:AG [(true,T4)]):Ab Tryz.prog (AD pu gi) (AJ mo) 3000 60 113 [(true,T4)] [zI] x=C3 x:=by kernel_rfl
def gk:List (FuncId×Sg):=(113,⟨[(true,T4)],[zI],C3⟩)::gi
theorem gm:TabOK Tryz.prog (AD pu gk):=AF gj qG
def mq:List (Nat×Nat×Nat×An):=[(114,3,4,.loop { keep:=[0,1,2],kb:=[0],pl:=[.srow 3 false zJ false,.slot 4 false zJ],ex:=[(.exit 0,[])],pay:=.unit })]
theorem qH (x:AG [(true,T4)]):Ab Tryz.prog (AD pu gk) (AJ mq) 3000 60 114 [(true,T4)] [(false,(.sl false zJ))] x=Cy x:=by kernel_rfl
def gn:List (FuncId×Sg):=(114,⟨[(true,T4)],[(false,(.sl false zJ))],Cy⟩)::gk
theorem gp:TabOK Tryz.prog (AD pu gn):=AF gm qH
theorem qI (x:AG [(true,T4),zI]):Ab Tryz.prog (AD pu gn) (AJ []) 3000 60 186 [(true,T4),zI] [zI] x=G7 x:=by kernel_rfl
def gr:List (FuncId×Sg):=(186,⟨[(true,T4),zI],[zI],G7⟩)::gn
theorem gu:TabOK Tryz.prog (AD pu gr):=AF gp qI
theorem qJ (x:AG [(true,T4),zI]):Ab Tryz.prog (AD pu gr) (AJ []) 3000 60 189 [(true,T4),zI] [(false,.bool),zI] x=HG x:=by kernel_rfl
def gv:List (FuncId×Sg):=(189,⟨[(true,T4),zI],[(false,.bool),zI],HG⟩)::gr
theorem gw:TabOK Tryz.prog (AD pu gv):=AF gu qJ
end Go.Proofs.YthpkjfabdccpdaaGreat.Pt
