/- The evaluator comes to each of the plain functions. No condition. -/
import Derived.Test.YtfilfloanndddaaGreatPt8
set_option linter.all false
namespace Go.Proofs.YtfilfloanndddaaGreat.Pt
open Go Go.Proofs.YtfilfloanndddaaGreat.Sv Go.Proofs.YtfilfloanndddaaGreat.Pl
set_option maxRecDepth 1000000
set_option linter.unusedVariables false
def pq:List (Nat×Nat×Nat×An):=[(28,10,42,.loop { keep:=[0,1,7,31,23,39,19,35,27,43,5,17,33,49,25,41,21,37,29,45,4,16,32,48,24,40,20,36,28,44,6,18,34,50,26,42,22,38,30,46],kb:=[0],pl:=[.slot 3 false zJ,.slot 2 false zJ,.slot 8 false zJ],ex:=[(.ret,[]),(.exit 0,[])],pay:=.unit })]
theorem t8 (x:AP [(true,Ur)]):OE Tryz.prog (Ad pu dZ) (Qq pq) 3000 60 28 [(true,Ur)] [zI,zI] x=VX x:=by kernel_rfl
def da:List (FuncId×Sg):=(28,⟨[(true,Ur)],[zI,zI],VX⟩)::dZ
theorem gG:TabOK Tryz.prog (Ad pu da):=R1 gF t8
theorem qK (x:AP [(true,Ur)]):OE Tryz.prog (Ad pu da) (Qq []) 3000 60 102 [(true,Ur)] [(false,(.sl false zJ)),zI] x=VE x:=by kernel_rfl
def db:List (FuncId×Sg):=(102,⟨[(true,Ur)],[(false,(.sl false zJ)),zI],VE⟩)::da
theorem gH:TabOK Tryz.prog (Ad pu db):=R1 gG qK
def p8:List (Nat×Nat×Nat×An):=[(55,5,13,.loop { keep:=[0,1,7,15,11,9,13,2,12,6,10,14],kb:=[0],pl:=[.slot 5 false zJ,.slot 4 false zJ,.slot 8 false zJ],ex:=[(.ret,[]),(.exit 0,[])],pay:=.unit })]
theorem uJ (x:AP [(true,Ur),zI]):OE Tryz.prog (Ad pu db) (Qq p8) 3000 60 55 [(true,Ur),zI] [zI,zI] x=UJ x:=by kernel_rfl
def de:List (FuncId×Sg):=(55,⟨[(true,Ur),zI],[zI,zI],UJ⟩)::db
theorem gI:TabOK Tryz.prog (Ad pu de):=R1 gH uJ
theorem uK (x:AP [(true,Ur),zI]):OE Tryz.prog (Ad pu de) (Qq []) 3000 60 57 [(true,Ur),zI] [zI,zI] x=Uh x:=by kernel_rfl
def dg:List (FuncId×Sg):=(57,⟨[(true,Ur),zI],[zI,zI],Uh⟩)::de
theorem gJ:TabOK Tryz.prog (Ad pu dg):=R1 gI uK
theorem qL (x:AP [zI,zI]):OE Tryz.prog (Ad pu dg) (Qq []) 3000 60 103 [zI,zI] [zI,zI] x=Wy x:=by kernel_rfl
def dh:List (FuncId×Sg):=(103,⟨[zI,zI],[zI,zI],Wy⟩)::dg
theorem gK:TabOK Tryz.prog (Ad pu dh):=R1 gJ qL
theorem uL (x:AP [(true,Ur),(true,Xj)]):OE Tryz.prog (Ad pu dh) (Qq []) 3000 60 58 [(true,Ur),(true,Xj)] [(false,.bool)] x=VY x:=by kernel_rfl
def di:List (FuncId×Sg):=(58,⟨[(true,Ur),(true,Xj)],[(false,.bool)],VY⟩)::dh
theorem gL:TabOK Tryz.prog (Ad pu di):=R1 gK uL
theorem uM (x:AP [(true,Ur),zI]):OE Tryz.prog (Ad pu di) (Qq []) 3000 60 59 [(true,Ur),zI] [(false,.bool)] x=Wz x:=by kernel_rfl
def dj:List (FuncId×Sg):=(59,⟨[(true,Ur),zI],[(false,.bool)],Wz⟩)::di
theorem gN:TabOK Tryz.prog (Ad pu dj):=R1 gL uM
theorem t6 (x:AP [(true,Ur),zI]):OE Tryz.prog (Ad pu dj) (Qq []) 3000 60 22 [(true,Ur),zI] [(false,.bool),zI] x=UR x:=by kernel_rfl
def dk:List (FuncId×Sg):=(22,⟨[(true,Ur),zI],[(false,.bool),zI],UR⟩)::dj
theorem gO:TabOK Tryz.prog (Ad pu dk):=R1 gN t6
theorem uN (x:AP [(true,Ur),zI,zI]):OE Tryz.prog (Ad pu dk) (Qq []) 3000 60 60 [(true,Ur),zI,zI] [(true,Ur),zI,zI] x=WN x:=by kernel_rfl
def dl:List (FuncId×Sg):=(60,⟨[(true,Ur),zI,zI],[(true,Ur),zI,zI],WN⟩)::dk
theorem gP:TabOK Tryz.prog (Ad pu dl):=R1 gO uN
theorem qN (x:AP [(true,Ur),zI]):OE Tryz.prog (Ad pu dl) (Qq []) 3000 60 105 [(true,Ur),zI] [zI,zI] x=WD x:=by kernel_rfl
def dm:List (FuncId×Sg):=(105,⟨[(true,Ur),zI],[zI,zI],WD⟩)::dl
theorem gQ:TabOK Tryz.prog (Ad pu dm):=R1 gP qN
def oI:List (Nat×Nat×Nat×An):=[(106,3,8,.loop { keep:=[0,1,3,7,11,2,12,6,10],kb:=[0,1],pl:=[.slot 8 false zJ,.box 5 [.lf zJ,.ow true (.sl true T3) false]],ex:=[(.exit 0,[])],pay:=.unit }),(106,9,9,.loop { keep:=[0,1,3,7,11,2,8,12,6,10],kb:=[0,1],pl:=[.box 5 [.lf zJ,.lf (.sl true (.sl true T3))]],ex:=[(.exit 2,[])],pay:=.unit,rel:=[(5,1)] })]
theorem qO (x:AP [(true,T4),zI,(false,(.sl true T3))]):OE Tryz.prog (Ad pu dm) (Qq oI) 3000 60 106 [(true,T4),zI,(false,(.sl true T3))] [(true,T4)] x=Ug x:=by kernel_rfl
def dq:List (FuncId×Sg):=(106,⟨[(true,T4),zI,(false,(.sl true T3))],[(true,T4)],Ug⟩)::dm
theorem gR:TabOK Tryz.prog (Ad pu dq):=R1 gQ qO
theorem qM (x:AP [(true,T4),zI]):PT Tryz.prog (Ad pu dq) (Qq []) 3000 60 104 [(true,T4),zI] true T3 x=Vn x:=by kernel_rfl
def dt:List (FuncId×Sg):=(4194408,⟨[(true,T4),zI],[(false,(.sl true T3))],Vn⟩)::dq
theorem gS:TabOK Tryz.prog (Ad pu dt):=SF (f:=104) gR qM
theorem qw (x:AP [(true,T4),zI]):OE Tryz.prog (Ad pu dt) (Qq []) 3000 60 149 [(true,T4),zI] [(true,Xj),zI] x=UH x:=by kernel_rfl
def du:List (FuncId×Sg):=(149,⟨[(true,T4),zI],[(true,Xj),zI],UH⟩)::dt
theorem gT:TabOK Tryz.prog (Ad pu du):=R1 gS qw
def p9:List (Nat×Nat×Nat×An):=[(107,3,98,.loop { keep:=[0,1,3,7,13,2,4,12,6,14],kb:=[0,1,92,90,70,54],pl:=[.slot 8 false zJ,.box 91 [.lf zJ,.lf (.sl true (.sl true T3)),.ow true Xj false,.lf zJ]],ex:=[(.exit 0,[])],pay:=.unit }),(107,3,73,.loop { keep:=[0,1,3,7,13,2,4,12,6,14],kb:=[0,1,67,65,54],pl:=[.slot 8 false zJ,.box 66 [.lf zJ,.lf (.sl true (.sl true T3)),.ow true Xj false,.lf zJ]],ex:=[(.exit 0,[])],pay:=.unit }),(107,7,116,.loop { keep:=[0,1,3,7,15,23,27,9,17,25,13,21,29,2,4,8,16,24,12,28,6,10,18,26,14,22,30],kb:=[0,1,91,92,90,70,54],pl:=[.slot 11 false zJ,.box 112 [.lf zJ,.lf (.sl false (.sl true T2)),.lf (.sl false zJ),.lf (.sl true T5),.lf (.sl false zJ),.lf zJ,.lf .bool,.lf .str,.lf .bool,.lf (.sl true T2),.lf zJ]],ex:=[(.exit 2,[])],pay:=.unit }),(107,7,91,.loop { keep:=[0,1,3,7,15,23,27,9,17,25,13,21,29,2,4,8,16,24,12,28,6,10,18,26,14,22,30],kb:=[0,1,67,65,66,54],pl:=[.slot 11 false zJ,.box 87 [.lf zJ,.lf (.sl false (.sl true T2)),.lf (.sl false zJ),.lf (.sl true T5),.lf (.sl false zJ),.lf zJ,.lf .bool,.lf .str,.lf .bool,.lf (.sl true T2),.lf zJ]],ex:=[(.exit 2,[])],pay:=.unit }),(107,7,117,.loop { keep:=[0,1,3,7,15,23,27,9,17,25,13,21,29,2,4,8,16,24,12,28,6,10,18,26,14,22,30],kb:=[0,1,91,92,98,90,70,54],pl:=[.slot 11 false zJ,.box 113 [.lf zJ,.lf (.sl false (.sl true T2)),.lf (.sl false zJ),.lf (.sl true T5),.lf (.sl false zJ),.lf zJ,.lf .bool,.lf .str,.lf .bool,.lf (.sl true T2),.lf zJ]],ex:=[(.exit 2,[])],pay:=.unit }),(107,7,92,.loop { keep:=[0,1,3,7,15,23,27,9,17,25,13,21,29,2,4,8,16,24,12,28,6,10,18,26,14,22,30],kb:=[0,1,67,65,73,66,54],pl:=[.slot 11 false zJ,.box 88 [.lf zJ,.lf (.sl false (.sl true T2)),.lf (.sl false zJ),.lf (.sl true T5),.lf (.sl false zJ),.lf zJ,.lf .bool,.lf .str,.lf .bool,.lf (.sl true T2),.lf zJ]],ex:=[(.exit 2,[])],pay:=.unit })]
theorem uO (x:AP [(true,Ur),zI]):OE Tryz.prog (Ad pu du) (Qq p9) 3000 60 61 [(true,Ur),zI] [(true,Ur),zI] x=VF x:=by kernel_rfl
def dv:List (FuncId×Sg):=(61,⟨[(true,Ur),zI],[(true,Ur),zI],VF⟩)::du
theorem gU:TabOK Tryz.prog (Ad pu dv):=R1 gT uO
end Go.Proofs.YtfilfloanndddaaGreat.Pt
