/- The evaluator comes to each of the plain functions. No condition. -/
import Derived.Test.YthpkjfabdccpdaaGreatPt6
set_option linter.all false
namespace Go.Proofs.YthpkjfabdccpdaaGreat.Pt
open Go Go.Proofs.YthpkjfabdccpdaaGreat.Sv Go.Proofs.YthpkjfabdccpdaaGreat.Pl
set_option maxRecDepth 1000000
set_option linter.unusedVariables false
theorem qK (x:AG [(true,T4),zI]):Ab Tryz.prog (AD pu gv) (AJ []) 3000 60 115 [(true,T4),zI] [(false,.bool)] x=BT x:=by kernel_rfl
def gx:List (FuncId×Sg):=(115,⟨[(true,T4),zI],[(false,.bool)],BT⟩)::gv
theorem gy:TabOK Tryz.prog (AD pu gx):=AF gw qK
def mr:List (Nat×Nat×Nat×An):=[(231,6,9,.loop { keep:=[0,7,11,9,8,12,10],kb:=[],pl:=[.slot 3 false zJ,.slot 2 false zJ,.slot 4 false zJ],ex:=[(.ret,[]),(.exit 0,[])],pay:=.unit })]
theorem qL (x:AG [(false,(.sl false (.sl true T2)))]):Ab Tryz.prog (AD pu gx) (AJ mr) 3000 60 231 [(false,(.sl false (.sl true T2)))] [zI,zI] x=Dh x:=by kernel_rfl
def gz:List (FuncId×Sg):=(231,⟨[(false,(.sl false (.sl true T2)))],[zI,zI],Dh⟩)::gx
theorem g9:TabOK Tryz.prog (AD pu gz):=AF gy qL
def mt:List (Nat×Nat×Nat×An):=[(269,6,8,.loop { keep:=[0,7,5,9,4,8,6],kb:=[],pl:=[.slot 3 false zJ,.slot 2 false zJ],ex:=[(.ret,[]),(.exit 0,[])],pay:=.unit })]
theorem qM (x:AG [(false,(.sl true T5))]):Ab Tryz.prog (AD pu gz) (AJ mt) 3000 60 269 [(false,(.sl true T5))] [zI] x=Fg x:=by kernel_rfl
def Vw:List (FuncId×Sg):=(269,⟨[(false,(.sl true T5))],[zI],Fg⟩)::gz
theorem ZC:TabOK Tryz.prog (AD pu Vw):=AF g9 qM
theorem qN (x:AG [(false,(.sl true T5)),zI,zI]):Ab Tryz.prog (AD pu Vw) (AJ []) 3000 60 287 [(false,(.sl true T5)),zI,zI] [(false,.bool)] x=FO x:=by kernel_rfl
def Vx:List (FuncId×Sg):=(287,⟨[(false,(.sl true T5)),zI,zI],[(false,.bool)],FO⟩)::Vw
theorem ZD:TabOK Tryz.prog (AD pu Vx):=AF ZC qN
theorem qO (r:AG [(false,(.sl true T5)),zI]->Option (AG [zI,zI])) (x:AG [(false,(.sl true T5)),zI]):Ab Tryz.prog (AD pu ((281,⟨[(false,(.sl true T5)),zI],[zI,zI],r⟩)::Vx)) (AJ []) 3000 60 281 [(false,(.sl true T5)),zI] [zI,zI] x=Ax r x:=by kernel_rfl
def Vy:List (FuncId×Sg):=(281,⟨[(false,(.sl true T5)),zI],[zI,zI],KP (α:=AG [(false,(.sl true T5)),zI]) (β:=AG [zI,zI]) Ax 100⟩)::Vx
theorem ZE:TabOK Tryz.prog (AD pu Vy):=jC ZD qO (by rfl) (by rfl) 100
def mu:List (Nat×Nat×Nat×An):=[(270,3,11,.loop { keep:=[0,3,5,9,2,8,6],kb:=[0],pl:=[.slot 4 false zJ,.box 8 [.ow true T5 false,.ow false zJ true,.lf zJ]],ex:=[(.exit 0,[])],pay:=.unit })]
theorem qP (x:AG [(false,(.sl true T5))]):Ab Tryz.prog (AD pu Vy) (AJ mu) 3000 60 270 [(false,(.sl true T5))] [(true,T7)] x=Gc x:=by kernel_rfl
def Vz:List (FuncId×Sg):=(270,⟨[(false,(.sl true T5))],[(true,T7)],Gc⟩)::Vy
theorem ZF:TabOK Tryz.prog (AD pu Vz):=AF ZE qP
theorem qQ (x:AG [(false,(.sl true T5))]):Ab Tryz.prog (AD pu Vz) (AJ []) 3000 60 250 [(false,(.sl true T5))] [(true,T7),zI] x=EZ x:=by kernel_rfl
def V0:List (FuncId×Sg):=(250,⟨[(false,(.sl true T5))],[(true,T7),zI],EZ⟩)::Vz
theorem ZG:TabOK Tryz.prog (AD pu V0):=AF ZF qQ
def mv:List (Nat×Nat×Nat×An):=[(230,4,12,.loop { keep:=[0,1,15,11,5,9,13,4,12,10,14],kb:=[0,3,8,6],pl:=[.slot 7 false zJ,.srow 6 true T5 false],ex:=[(.exit 0,[])],pay:=.unit })]
theorem qR (x:AG [(false,(.sl false (.sl true T2))),(false,(.sl false zJ))]):Ab Tryz.prog (AD pu V0) (AJ mv) 3000 60 230 [(false,(.sl false (.sl true T2))),(false,(.sl false zJ))] [(true,T9)] x=Cz x:=by kernel_rfl
def V1:List (FuncId×Sg):=(230,⟨[(false,(.sl false (.sl true T2))),(false,(.sl false zJ))],[(true,T9)],Cz⟩)::V0
theorem ZH:TabOK Tryz.prog (AD pu V1):=AF ZG qR
theorem qS (x:AG [(false,(.sl false (.sl true T2)))]):Ab Tryz.prog (AD pu V1) (AJ []) 3000 60 226 [(false,(.sl false (.sl true T2)))] [(true,T9),zI,zI] x=HH x:=by kernel_rfl
def V2:List (FuncId×Sg):=(226,⟨[(false,(.sl false (.sl true T2)))],[(true,T9),zI,zI],HH⟩)::V1
theorem ZI:TabOK Tryz.prog (AD pu V2):=AF ZH qS
theorem qT (x:AG [(false,.bool)]):Ab Tryz.prog (AD pu V2) (AJ []) 3000 60 227 [(false,.bool)] [(true,Ps)] x=C0 x:=by kernel_rfl
def V3:List (FuncId×Sg):=(227,⟨[(false,.bool)],[(true,Ps)],C0⟩)::V2
theorem ZJ:TabOK Tryz.prog (AD pu V3):=AF ZI qT
theorem qU (x:AG [(false,(.sl false (.sl true T2))),(false,.bool)]):Ab Tryz.prog (AD pu V3) (AJ []) 3000 60 190 [(false,(.sl false (.sl true T2))),(false,.bool)] [(true,Ii),zI,zI] x=Fh x:=by kernel_rfl
def V4:List (FuncId×Sg):=(190,⟨[(false,(.sl false (.sl true T2))),(false,.bool)],[(true,Ii),zI,zI],Fh⟩)::V3
theorem ZK:TabOK Tryz.prog (AD pu V4):=AF ZJ qU
theorem qV (x:AG [(true,T4),zI,(false,.bool)]):Ab Tryz.prog (AD pu V4) (AJ []) 3000 60 116 [(true,T4),zI,(false,.bool)] [(true,Pv)] x=A2 x:=by kernel_rfl
def V5:List (FuncId×Sg):=(116,⟨[(true,T4),zI,(false,.bool)],[(true,Pv)],A2⟩)::V4
theorem ZL:TabOK Tryz.prog (AD pu V5):=AF ZK qV
def mw:List (Nat×Nat×Nat×An):=[(233,4,7,.loop { keep:=[0,1,7,9,8,6,10],kb:=[],pl:=[.slot 5 false zJ,.slot 4 false .bool],ex:=[(.ret,[]),(.exit 0,[])],pay:=.unit })]
theorem qW (x:AG [(false,(.sl false zJ)),(false,(.sl false zJ))]):Ab Tryz.prog (AD pu V5) (AJ mw) 3000 60 233 [(false,(.sl false zJ)),(false,(.sl false zJ))] [(false,.bool)] x=Gd x:=by kernel_rfl
def V6:List (FuncId×Sg):=(233,⟨[(false,(.sl false zJ)),(false,(.sl false zJ))],[(false,.bool)],Gd⟩)::V5
theorem ZM:TabOK Tryz.prog (AD pu V6):=AF ZL qW
def my:List (Nat×Nat×Nat×An):=[(234,4,26,.loop { keep:=[0,1,3,7,15,23,11,19,27,9,17,25,13,21,2,8,16,24,12,20,6,10,18,26,14,22],kb:=[0,1],pl:=[.slot 5 false zJ,.slot 4 false .bool],ex:=[(.ret,[]),(.exit 0,[])],pay:=.unit })]
theorem qX (x:AG [(true,T7),(true,T7)]):Ab Tryz.prog (AD pu V6) (AJ my) 3000 60 234 [(true,T7),(true,T7)] [(false,.bool)] x=FP x:=by kernel_rfl
def V7:List (FuncId×Sg):=(234,⟨[(true,T7),(true,T7)],[(false,.bool)],FP⟩)::V6
theorem ZN:TabOK Tryz.prog (AD pu V7):=AF ZM qX
end Go.Proofs.YthpkjfabdccpdaaGreat.Pt
