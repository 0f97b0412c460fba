/- The evaluator comes to each of the plain functions. No condition. -/
import Derived.Test.YthpkjfabdccpdaaGreatPt3
set_option linter.all false
namespace Go.Proofs.YthpkjfabdccpdaaGreat.Pt
open Go Go.Proofs.YthpkjfabdccpdaaGreat.Sv Go.Proofs.YthpkjfabdccpdaaGreat.Pl
set_option maxRecDepth 1000000
set_option linter.unusedVariables false
def kF:List (Nat×Nat×Nat×An):=[(215,6,17,.loop { keep:=[0,1,3,15,11,19,5,9,17,13,2,4,12,10,18,14],kb:=[0],pl:=[.slot 20 false zJ,.slot 6 false zJ],ex:=[(.exit 0,[])],pay:=.unit })]
theorem mw (x:AG [(true,T9)]):Ac Tryz.prog (AC pu cI) (AI kF) 3000 60 215 [(true,T9)] [zI,zI] x=Fz x:=by kernel_rfl
def cK:List (FuncId×Sg):=(215,⟨[(true,T9)],[zI,zI],Fz⟩)::cI
theorem cL:TabOK Tryz.prog (AC pu cK):=AF cJ mw
theorem my (x:AG [(true,H5)]):Ac Tryz.prog (AC pu cK) (AI []) 3000 60 167 [(true,H5)] [zI,zI] x=Bt x:=by kernel_rfl
def cM:List (FuncId×Sg):=(167,⟨[(true,H5)],[zI,zI],Bt⟩)::cK
theorem cN:TabOK Tryz.prog (AC pu cM):=AF cL my
theorem mz (x:AG [(true,T9)]):Ac Tryz.prog (AC pu cM) (AI []) 3000 60 245 [(true,T9)] [(true,T2),zI,(true,T9),zI] x=Bv x:=by kernel_rfl
def cO:List (FuncId×Sg):=(245,⟨[(true,T9)],[(true,T2),zI,(true,T9),zI],Bv⟩)::cM
theorem cQ:TabOK Tryz.prog (AC pu cO):=AF cN mz
theorem m6 (x:AG [(true,O0),(true,T2)]):Ac Tryz.prog (AC pu cO) (AI []) 3000 60 246 [(true,O0),(true,T2)] [(false,.bool),(true,O0),zI] x=B7 x:=by kernel_rfl
def cR:List (FuncId×Sg):=(246,⟨[(true,O0),(true,T2)],[(false,.bool),(true,O0),zI],B7⟩)::cO
theorem cS:TabOK Tryz.prog (AC pu cR):=AF cQ m6
def kG:List (Nat×Nat×Nat×An):=[(216,2,81,.loop { keep:=[0,1,6],kb:=[0,1,39,67,68],pl:=[.slot 7 false zJ,.slot 4 false zJ,.box 28 [.lf (.sl false (.sl true T2)),.lf (.sl false zJ),.lf (.sl true T5),.lf (.sl false zJ),.lf zJ,.lf .bool,.lf .str,.lf .bool,.ow true T2 false,.lf zJ]],ex:=[(.ret,[]),(.exit 0,[])],pay:=.unit }),(216,2,98,.loop { keep:=[0,1,6],kb:=[0,1,39,67,68,86],pl:=[.slot 7 false zJ,.slot 4 false zJ,.box 28 [.lf (.sl false (.sl true T2)),.lf (.sl false zJ),.lf (.sl true T5),.lf (.sl false zJ),.lf zJ,.lf .bool,.lf .str,.lf .bool,.ow true T2 false,.lf zJ]],ex:=[(.ret,[]),(.exit 0,[])],pay:=.unit }),(216,2,133,.loop { keep:=[0,1,6],kb:=[0,1,39,67,68,86],pl:=[.slot 7 false zJ,.slot 4 false zJ,.box 28 [.lf (.sl false (.sl true T2)),.lf (.sl false zJ),.lf (.sl true T5),.lf (.sl false zJ),.lf zJ,.lf .bool,.lf .str,.lf .bool,.ow true T2 false,.lf zJ]],ex:=[(.ret,[]),(.exit 0,[])],pay:=.unit }),(216,2,120,.loop { keep:=[0,1,6],kb:=[0,1,39,67,68,86],pl:=[.slot 7 false zJ,.slot 4 false zJ,.box 28 [.lf (.sl false (.sl true T2)),.lf (.sl false zJ),.lf (.sl true T5),.lf (.sl false zJ),.lf zJ,.lf .bool,.lf .str,.lf .bool,.ow true T2 false,.lf zJ]],ex:=[(.ret,[]),(.exit 0,[])],pay:=.unit })]
theorem m7 (x:AG [(true,H5),zI]):Ac Tryz.prog (AC pu cR) (AI kG) 3000 60 175 [(true,H5),zI] [(true,H5),zI,zI] x=CW x:=by kernel_rfl
def cU:List (FuncId×Sg):=(175,⟨[(true,H5),zI],[(true,H5),zI,zI],CW⟩)::cR
theorem cV:TabOK Tryz.prog (AC pu cU):=AF cS m7
def kH:List (Nat×Nat×Nat×An):=[(248,4,9,.loop { keep:=[0,1,7,11,9,8,12,6,10],kb:=[],pl:=[.slot 13 false zJ,.slot 4 false .bool],ex:=[(.ret,[]),(.exit 0,[])],pay:=.unit })]
theorem m8 (x:AG [(false,(.sl true T2)),(false,(.sl true T2))]):Ac Tryz.prog (AC pu cU) (AI kH) 3000 60 248 [(false,(.sl true T2)),(false,(.sl true T2))] [(false,.bool)] x=BK x:=by kernel_rfl
def cW:List (FuncId×Sg):=(248,⟨[(false,(.sl true T2)),(false,(.sl true T2))],[(false,.bool)],BK⟩)::cU
theorem cX:TabOK Tryz.prog (AC pu cW):=AF cV m8
theorem m9 (x:AG [(false,(.sl true T2)),(false,(.sl true T2))]):Ac Tryz.prog (AC pu cW) (AI []) 3000 60 222 [(false,(.sl true T2)),(false,(.sl true T2))] [(false,.bool)] x=Bg x:=by kernel_rfl
def cY:List (FuncId×Sg):=(222,⟨[(false,(.sl true T2)),(false,(.sl true T2))],[(false,.bool)],Bg⟩)::cW
theorem cZ:TabOK Tryz.prog (AC pu cY):=AF cX m9
def kI:List (Nat×Nat×Nat×An):=[(221,4,81,.loop { keep:=[0,1,15,11,13,2,16,12,10,14],kb:=[0,1,7,8],pl:=[.slot 17 false zJ,.slot 6 false .bool],ex:=[(.ret,[]),(.exit 0,[])],pay:=.unit })]
theorem nA (x:AG [(true,H5),(true,H5)]):Ac Tryz.prog (AC pu cY) (AI kI) 3000 60 183 [(true,H5),(true,H5)] [(false,.bool)] x=DL x:=by kernel_rfl
def ca:List (FuncId×Sg):=(183,⟨[(true,H5),(true,H5)],[(false,.bool)],DL⟩)::cY
theorem cb:TabOK Tryz.prog (AC pu ca):=AF cZ nA
def kJ:List (Nat×Nat×Nat×An):=[(219,1,52,.loop { keep:=[0,1,7,5,6],kb:=[0,47,35,46],pl:=[.slot 8 false zJ,.box 43 [.ow false zJ false]],ex:=[(.exit 0,[(47,0,none)])],pay:=.unit }),(107,10,59,.loop { keep:=[0,1,15,31,47,23,39,19,35,27,43,17,33,25,41,21,37,29,45,4,16,32,40,20,36,28,44,18,34,26,42,14,22,38,30,46],kb:=[0,47,35,43,52],pl:=[.slot 3 false zJ,.slot 2 false zJ,.slot 48 false zJ],ex:=[(.ret,[(47,3,none)]),(.exit 1,[(47,3,none)])],pay:=.unit })]
theorem nB (x:AG [(true,O1)]):Ac Tryz.prog (AC pu ca) (AI kJ) 3000 60 107 [(true,O1)] [zI,zI] x=Bw x:=by kernel_rfl
def cc:List (FuncId×Sg):=(107,⟨[(true,O1)],[zI,zI],Bw⟩)::ca
theorem cd:TabOK Tryz.prog (AC pu cc):=AF cb nB
theorem o7 (x:AG [(true,Kh)]):Ac Tryz.prog (AC pu cc) (AI []) 3000 60 56 [(true,Kh)] [zI,zI] x=Cn x:=by kernel_rfl
def cf:List (FuncId×Sg):=(56,⟨[(true,Kh)],[zI,zI],Cn⟩)::cc
theorem cg:TabOK Tryz.prog (AC pu cf):=AF cd o7
theorem o8 (x:AG [(false,.str),zI]):Ac Tryz.prog (AC pu cf) (AI []) 3000 60 62 [(false,.str),zI] [(true,T2)] x=CI x:=by kernel_rfl
def cj:List (FuncId×Sg):=(62,⟨[(false,.str),zI],[(true,T2)],CI⟩)::cf
theorem ck:TabOK Tryz.prog (AC pu cj):=AF cg o8
def kK:List (Nat×Nat×Nat×An):=[(208,7,17,.loop { keep:=[0,1,15,11,19,5,13,21,2,16,12,20,6,10,18,14,22],kb:=[0],pl:=[.slot 23 false zJ,.slot 4 false zJ],ex:=[(.ret,[]),(.exit 0,[])],pay:=.unit })]
theorem nC (x:AG [(true,T3),(false,(.sl true T2))]):Ac Tryz.prog (AC pu cj) (AI kK) 3000 60 208 [(true,T3),(false,(.sl true T2))] [zI] x=Dq x:=by kernel_rfl
def cm:List (FuncId×Sg):=(208,⟨[(true,T3),(false,(.sl true T2))],[zI],Dq⟩)::cj
theorem cp:TabOK Tryz.prog (AC pu cm):=AF ck nC
def kL:List (Nat×Nat×Nat×An):=[(252,2,13,.loop { keep:=[0,1,4,8],kb:=[0,1],pl:=[.slot 5 false zJ,.slot 6 false zJ],ex:=[(.exit 0,[])],pay:=.unit })]
theorem nD (x:AG [(false,(.sl true T2)),(false,.str)]):Ac Tryz.prog (AC pu cm) (AI kL) 3000 60 237 [(false,(.sl true T2)),(false,.str)] [zI,(false,.bool)] x=Db x:=by kernel_rfl
def cq:List (FuncId×Sg):=(237,⟨[(false,(.sl true T2)),(false,.str)],[zI,(false,.bool)],Db⟩)::cm
theorem cr:TabOK Tryz.prog (AC pu cq):=AF cp nD
def kM:List (Nat×Nat×Nat×An):=[(209,4,16,.loop { keep:=[0,1,15,11,19,13,2,16,12,18],kb:=[0],pl:=[.slot 5 false zJ,.swin 4 true T2,.slot 20 false zJ,.slot 6 false .bool],ex:=[(.exit 0,[])],pay:=.unit })]
theorem nE (x:AG [(true,T3),(false,(.sl true T2))]):Ac Tryz.prog (AC pu cq) (AI kM) 3000 60 209 [(true,T3),(false,(.sl true T2))] [(false,(.sl true T2)),zI,(false,.bool)] x=C8 x:=by kernel_rfl
def cu:List (FuncId×Sg):=(209,⟨[(true,T3),(false,(.sl true T2))],[(false,(.sl true T2)),zI,(false,.bool)],C8⟩)::cq
theorem cv:TabOK Tryz.prog (AC pu cu):=AF cr nE
end Go.Proofs.YthpkjfabdccpdaaGreat.Pt
