/- The evaluator comes to each of the plain functions. No condition. -/
import Derived.Test.YthpkjfabdccpdaaGreatPt7
set_option linter.all false
namespace Go.Proofs.YthpkjfabdccpdaaGreat.Pt
open Go Go.Proofs.YthpkjfabdccpdaaGreat.Sv Go.Proofs.YthpkjfabdccpdaaGreat.Pl
set_option maxRecDepth 1000000
set_option linter.unusedVariables false
def mz:List (Nat×Nat×Nat×An):=[(229,3,3,.loop { keep:=[0,1,4],kb:=[],pl:=[.slot 5 false zJ,.slot 6 false zJ],ex:=[(.exit 0,[])],pay:=.unit })]
theorem qY (x:AG [(false,(.sl false (.sl true T2))),(false,(.sl false zJ))]):Ab Tryz.prog (AD pu V7) (AJ mz) 3000 60 229 [(false,(.sl false (.sl true T2))),(false,(.sl false zJ))] [zI] x=Di x:=by kernel_rfl
def V8:List (FuncId×Sg):=(229,⟨[(false,(.sl false (.sl true T2))),(false,(.sl false zJ))],[zI],Di⟩)::V7
theorem ZO:TabOK Tryz.prog (AD pu V8):=AF ZN qY
def m6:List (Nat×Nat×Nat×An):=[(228,7,21,.loop { keep:=[0,1,15,23,11,27,5,17,25,13,21,4,16,24,12,18,26,14,22],kb:=[0],pl:=[.slot 3 false zJ,.slot 2 false zJ,.slot 6 false zJ],ex:=[(.ret,[]),(.exit 0,[])],pay:=.unit }),(228,15,38,.loop { keep:=[0,1,7,15,63,23,11,67,27,59,5,17,65,25,57,13,21,69,61,4,16,64,24,56,12,68,60,6,18,66,26,58,14,22,70,62],kb:=[0],pl:=[.slot 3 false zJ,.slot 2 false zJ,.slot 8 false zJ],ex:=[(.ret,[]),(.exit 2,[])],pay:=.unit })]
theorem qZ (x:AG [(true,T9)]):Ab Tryz.prog (AD pu V8) (AJ m6) 3000 60 228 [(true,T9)] [zI,zI] x=Dj x:=by kernel_rfl
def V9:List (FuncId×Sg):=(228,⟨[(true,T9)],[zI,zI],Dj⟩)::V8
theorem ZP:TabOK Tryz.prog (AD pu V9):=AF ZO qZ
def m7:List (Nat×Nat×Nat×An):=[(193,3,4,.loop { keep:=[0,1,2],kb:=[0],pl:=[.slot 3 false zJ,.slot 4 false zJ],ex:=[(.exit 0,[])],pay:=.unit })]
theorem qc (x:AG [(true,Ii)]):Ab Tryz.prog (AD pu V9) (AJ m7) 3000 60 193 [(true,Ii)] [zI] x=EG x:=by kernel_rfl
def WA:List (FuncId×Sg):=(193,⟨[(true,Ii)],[zI],EG⟩)::V9
theorem ZQ:TabOK Tryz.prog (AD pu WA):=AF ZP qc
def m8:List (Nat×Nat×Nat×An):=[(195,7,18,.loop { keep:=[0,15,11,19,5,17,13,16,12,20,6,14],kb:=[],pl:=[.srow 3 false zJ false,.srow 7 true T2 false,.srow 2 true T2 false,.slot 4 false zJ,.srow 8 false zJ false,.srow 9 false zJ true],ex:=[(.ret,[])],pay:=.unit,plx:=[.srow 3 false zJ false,.srow 2 true T2 false,.slot 4 false zJ] })]
theorem qd (x:AG [(false,(.sl false (.sl true T2)))]):Ab Tryz.prog (AD pu WA) (AJ m8) 3000 60 195 [(false,(.sl false (.sl true T2)))] [(false,(.sl true T2)),(false,(.sl false zJ)),zI] x=E2 x:=by kernel_rfl
def WB:List (FuncId×Sg):=(195,⟨[(false,(.sl false (.sl true T2)))],[(false,(.sl true T2)),(false,(.sl false zJ)),zI],E2⟩)::WA
theorem ZR:TabOK Tryz.prog (AD pu WB):=AF ZQ qd
theorem qf (x:AG [(true,Ps)]):Ab Tryz.prog (AD pu WB) (AJ []) 3000 60 271 [(true,Ps)] [zI] x=Fi x:=by kernel_rfl
def WC:List (FuncId×Sg):=(271,⟨[(true,Ps)],[zI],Fi⟩)::WB
theorem ZS:TabOK Tryz.prog (AD pu WC):=AF ZR qf
theorem qg (x:AG [(true,Ps),(true,T2)]):Ab Tryz.prog (AD pu WC) (AJ []) 3000 60 251 [(true,Ps),(true,T2)] [(false,.bool),(true,Ps),zI] x=Ge x:=by kernel_rfl
def WD:List (FuncId×Sg):=(251,⟨[(true,Ps),(true,T2)],[(false,.bool),(true,Ps),zI],Ge⟩)::WC
theorem ZT:TabOK Tryz.prog (AD pu WD):=AF ZS qg
def m9:List (Nat×Nat×Nat×An):=[(232,6,12,.loop { keep:=[0,1,7,15,17,13,16,14],kb:=[],pl:=[.slot 5 false zJ,.slot 9 false zJ,.srow 4 true T2 false,.srow 8 true T2 false,.slot 6 false zJ,.box 8 [.lf .bool,.lf .str,.lf .bool]],ex:=[(.ret,[]),(.exit 0,[])],pay:=.unit })]
theorem qh (x:AG [(false,(.sl true T2)),(false,.bool)]):Ab Tryz.prog (AD pu WD) (AJ m9) 3000 60 232 [(false,(.sl true T2)),(false,.bool)] [(false,(.sl true T2)),zI,zI] x=E3 x:=by kernel_rfl
def WE:List (FuncId×Sg):=(232,⟨[(false,(.sl true T2)),(false,.bool)],[(false,(.sl true T2)),zI,zI],E3⟩)::WD
theorem ZU:TabOK Tryz.prog (AD pu WE):=AF ZT qh
theorem qi (x:AG [(false,(.sl true T2)),(false,.bool)]):Ab Tryz.prog (AD pu WE) (AJ []) 3000 60 196 [(false,(.sl true T2)),(false,.bool)] [(false,(.sl true T2)),(true,Ps)] x=DD x:=by kernel_rfl
def WF:List (FuncId×Sg):=(196,⟨[(false,(.sl true T2)),(false,.bool)],[(false,(.sl true T2)),(true,Ps)],DD⟩)::WE
theorem ZV:TabOK Tryz.prog (AD pu WF):=AF ZU qi
def nA:List (Nat×Nat×Nat×An):=[(198,4,7,.loop { keep:=[0,1,7,9,8,6,10],kb:=[],pl:=[.slot 5 false zJ,.slot 4 false .bool],ex:=[(.ret,[]),(.exit 0,[])],pay:=.unit })]
theorem qj (x:AG [(false,(.sl true T2)),(false,(.sl true T2))]):Ab Tryz.prog (AD pu WF) (AJ nA) 3000 60 198 [(false,(.sl true T2)),(false,(.sl true T2))] [(false,.bool)] x=By x:=by kernel_rfl
def WG:List (FuncId×Sg):=(198,⟨[(false,(.sl true T2)),(false,(.sl true T2))],[(false,.bool)],By⟩)::WF
theorem ZW:TabOK Tryz.prog (AD pu WG):=AF ZV qj
theorem qk (x:AG [(true,Ii)]):Ab Tryz.prog (AD pu WG) (AJ []) 3000 60 191 [(true,Ii)] [zI] x=Fj x:=by kernel_rfl
def WH:List (FuncId×Sg):=(191,⟨[(true,Ii)],[zI],Fj⟩)::WG
theorem ZX:TabOK Tryz.prog (AD pu WH):=AF ZW qk
def nB:List (Nat×Nat×Nat×An):=[(192,6,14,.loop { keep:=[0,1,3,11,5,9,13,2,4,8,12,10,14],kb:=[0],pl:=[.slot 7 false zJ,.slot 6 false zJ],ex:=[(.exit 0,[])],pay:=.unit })]
theorem ql (x:AG [(true,T9)]):Ab Tryz.prog (AD pu WH) (AJ nB) 3000 60 192 [(true,T9)] [zI,zI] x=Gf x:=by kernel_rfl
def WI:List (FuncId×Sg):=(192,⟨[(true,T9)],[zI,zI],Gf⟩)::WH
theorem ZY:TabOK Tryz.prog (AD pu WI):=AF ZX ql
theorem qm (x:AG [(true,Ii)]):Ab Tryz.prog (AD pu WI) (AJ []) 3000 60 117 [(true,Ii)] [zI,zI] x=BL x:=by kernel_rfl
def WJ:List (FuncId×Sg):=(117,⟨[(true,Ii)],[zI,zI],BL⟩)::WI
theorem ZZ:TabOK Tryz.prog (AD pu WJ):=AF ZY qm
theorem qn (x:AG [(true,T9)]):Ab Tryz.prog (AD pu WJ) (AJ []) 3000 60 194 [(true,T9)] [(true,T2),zI,(true,T9),zI] x=EH x:=by kernel_rfl
def WK:List (FuncId×Sg):=(194,⟨[(true,T9)],[(true,T2),zI,(true,T9),zI],EH⟩)::WJ
theorem Za:TabOK Tryz.prog (AD pu WK):=AF ZZ qn
def nC:List (Nat×Nat×Nat×An):=[(118,11,32,.loop { keep:=[0,1,7,15,31,23,39,19,35,27,5,9,17,33,25,21,37,2,4,8,16,32,24,20,36,6,10,18,34,26,22,30],kb:=[0,1],pl:=[.slot 11 false zJ,.box 29 [.lf (.sl false (.sl true T2)),.lf (.sl false zJ),.lf (.sl true T5),.lf (.sl false zJ),.lf zJ,.lf .bool,.lf .str,.lf .bool,.lf (.sl true T2),.lf zJ]],ex:=[(.exit 0,[])],pay:=.unit })]
theorem qo (x:AG [(true,Ii),zI]):Ab Tryz.prog (AD pu WK) (AJ nC) 3000 60 118 [(true,Ii),zI] [(true,Ii),zI,zI] x=Ba x:=by kernel_rfl
def WL:List (FuncId×Sg):=(118,⟨[(true,Ii),zI],[(true,Ii),zI,zI],Ba⟩)::WK
theorem Zb:TabOK Tryz.prog (AD pu WL):=AF Za qo
end Go.Proofs.YthpkjfabdccpdaaGreat.Pt
