/- The evaluator comes to each of the plain functions. No condition. -/
import Derived.Test.YthpkjfabdccpdaaGreatPt9
set_option linter.all false
namespace Go.Proofs.YthpkjfabdccpdaaGreat.Pt
open Go Go.Proofs.YthpkjfabdccpdaaGreat.Sv Go.Proofs.YthpkjfabdccpdaaGreat.Pl
set_option maxRecDepth 1000000
set_option linter.unusedVariables false
theorem rC (x:AG [(true,T4),zI]):Ab Tryz.prog (AD pu WZ) (AJ []) 3000 60 174 [(true,T4),zI] [(true,Pv),zI] x=Dm x:=by kernel_rfl
def Wa:List (FuncId×Sg):=(174,⟨[(true,T4),zI],[(true,Pv),zI],Dm⟩)::WZ
theorem Zq:TabOK Tryz.prog (AD pu Wa):=AF Zp rC
def rD:List (Nat×Nat×Nat×An):=[(37,1002003,10,.join { keep:=[0,1,11,5,13,2,4,12,6,10,14],kb:=[0,1],pl0:=[.slot 7 false zJ],pl1:=[.slot 7 false zJ],ex:=[],pay:=.unit }),(37,1002002,10,.join { keep:=[0,1,7,11,5,13,2,4,12,6,10,14],kb:=[0,1],pl0:=[],pl1:=[.slot 28 false .bool],ex:=[],pay:=.unit }),(37,1008009,24,.join { keep:=[0,1,39,11,35,5,33,41,13,37,29,2,4,8,40,12,36,6,10,34,14,38,30],kb:=[0,1,16],pl0:=[.slot 7 false zJ],pl1:=[.slot 7 false zJ],ex:=[],pay:=.unit }),(37,1008008,24,.join { keep:=[0,1,7,39,11,35,5,33,41,13,37,29,2,4,8,40,12,36,6,10,34,14,38,30],kb:=[0,1,16],pl0:=[],pl1:=[.slot 48 false .bool],ex:=[],pay:=.unit }),(97,3,55,.loop { keep:=[0,1,3,7,13,2,4,12,6,14],kb:=[0,1,47,33,49,16],pl:=[.slot 8 false zJ,.box 48 [.lf zJ,.lf (.sl true (.sl true T3)),.ow true Pv false,.lf zJ]],ex:=[(.exit 0,[])],pay:=.unit }),(97,7,73,.loop { keep:=[0,1,3,7,15,23,27,9,17,25,13,21,29,2,4,8,16,24,12,28,6,10,18,26,14,22,30],kb:=[0,1,47,33,49,16,48],pl:=[.slot 11 false zJ,.box 69 [.lf zJ,.lf (.sl false (.sl true T2)),.lf (.sl false zJ),.lf (.sl true T5),.lf (.sl false zJ),.lf zJ,.lf .bool,.lf .str,.lf .bool,.lf (.sl true T2),.lf zJ]],ex:=[(.exit 2,[])],pay:=.unit }),(97,7,74,.loop { keep:=[0,1,3,7,15,23,27,9,17,25,13,21,29,2,4,8,16,24,12,28,6,10,18,26,14,22,30],kb:=[0,1,47,55,33,49,16,48],pl:=[.slot 11 false zJ,.box 70 [.lf zJ,.lf (.sl false (.sl true T2)),.lf (.sl false zJ),.lf (.sl true T5),.lf (.sl false zJ),.lf zJ,.lf .bool,.lf .str,.lf .bool,.lf (.sl true T2),.lf zJ]],ex:=[(.exit 2,[])],pay:=.unit })]
theorem sK (x:AG [(true,K7),(false,(.sl true T2))]):Ab Tryz.prog (AD pu Wa) (AJ rD) 3000 60 37 [(true,K7),(false,(.sl true T2))] [(true,K7),zI] x=E6 x:=by kernel_rfl
def Wb:List (FuncId×Sg):=(37,⟨[(true,K7),(false,(.sl true T2))],[(true,K7),zI],E6⟩)::Wa
theorem Zr:TabOK Tryz.prog (AD pu Wb):=AF Zq sK
theorem sL (x:AG [(true,GC)]):Ab Tryz.prog (AD pu Wb) (AJ []) 3000 60 61 [(true,GC)] [(true,GC),zI] x=FT x:=by kernel_rfl
def Wc:List (FuncId×Sg):=(61,⟨[(true,GC)],[(true,GC),zI],FT⟩)::Wb
theorem Zs:TabOK Tryz.prog (AD pu Wc):=AF Zr sL
theorem rE (x:AG [(true,T3),(false,(.sl true T2))]):Ab Tryz.prog (AD pu Wc) (AJ []) 3000 60 143 [(true,T3),(false,(.sl true T2))] [(true,T3),zI,zI] x=Ee x:=by kernel_rfl
def Wd:List (FuncId×Sg):=(143,⟨[(true,T3),(false,(.sl true T2))],[(true,T3),zI,zI],Ee⟩)::Wc
theorem Zt:TabOK Tryz.prog (AD pu Wd):=AF Zs rE
theorem sN (x:AG [(true,GC),(false,(.sl true T2))]):Ab Tryz.prog (AD pu Wd) (AJ []) 3000 60 59 [(true,GC),(false,(.sl true T2))] [(true,GC),zI,zI] x=Fp x:=by kernel_rfl
def We:List (FuncId×Sg):=(59,⟨[(true,GC),(false,(.sl true T2))],[(true,GC),zI,zI],Fp⟩)::Wd
theorem Zu:TabOK Tryz.prog (AD pu We):=AF Zt sN
def rF:List (Nat×Nat×Nat×An):=[(40,2,2,.loop { keep:=[0,1],kb:=[],pl:=[.slot 5 false zJ,.slot 4 false .bool],ex:=[(.ret,[]),(.exit 0,[])],pay:=.unit })]
theorem sO (x:AG [(false,(.sl true T2)),(false,(.sl true T2))]):Ab Tryz.prog (AD pu We) (AJ rF) 3000 60 40 [(false,(.sl true T2)),(false,(.sl true T2))] [(false,.bool)] x=C5 x:=by kernel_rfl
def Wf:List (FuncId×Sg):=(40,⟨[(false,(.sl true T2)),(false,(.sl true T2))],[(false,.bool)],C5⟩)::We
theorem Zv:TabOK Tryz.prog (AD pu Wf):=AF Zu sO
theorem rG (x:AG [(true,T3),(true,T3)]):Ab Tryz.prog (AD pu Wf) (AJ []) 3000 60 129 [(true,T3),(true,T3)] [(false,.bool)] x=Hk x:=by kernel_rfl
def Wg:List (FuncId×Sg):=(129,⟨[(true,T3),(true,T3)],[(false,.bool)],Hk⟩)::Wf
theorem Zw:TabOK Tryz.prog (AD pu Wg):=AF Zv rG
theorem rH (x:AG [(true,T3),(true,T3)]):Ab Tryz.prog (AD pu Wg) (AJ []) 3000 60 124 [(true,T3),(true,T3)] [(false,.bool)] x=ER x:=by kernel_rfl
def Wh:List (FuncId×Sg):=(124,⟨[(true,T3),(true,T3)],[(false,.bool)],ER⟩)::Wg
theorem Zx:TabOK Tryz.prog (AD pu Wh):=AF Zw rH
def rI:List (Nat×Nat×Nat×An):=[(43,4,7,.loop { keep:=[0,1,7,9,8,6,10],kb:=[],pl:=[.slot 5 false zJ,.slot 4 false .bool],ex:=[(.ret,[]),(.exit 0,[])],pay:=.unit })]
theorem sQ (x:AG [(false,(.sl true T3)),(false,(.sl true T3))]):Ab Tryz.prog (AD pu Wh) (AJ rI) 3000 60 43 [(false,(.sl true T3)),(false,(.sl true T3))] [(false,.bool)] x=D5 x:=by kernel_rfl
def Wi:List (FuncId×Sg):=(43,⟨[(false,(.sl true T3)),(false,(.sl true T3))],[(false,.bool)],D5⟩)::Wh
theorem Zy:TabOK Tryz.prog (AD pu Wi):=AF Zx sQ
def rJ:List (Nat×Nat×Nat×An):=[(98,4,18,.loop { keep:=[0,1,3,7,15,11,19,9,17,13,2,8,16,12,6,10,18,14],kb:=[0,1],pl:=[.slot 5 false zJ,.slot 4 false .bool],ex:=[(.ret,[]),(.exit 0,[])],pay:=.unit })]
theorem sR (x:AG [(true,T4),(true,T4)]):Ab Tryz.prog (AD pu Wi) (AJ rJ) 3000 60 98 [(true,T4),(true,T4)] [(false,.bool)] x=Gn x:=by kernel_rfl
def Wj:List (FuncId×Sg):=(98,⟨[(true,T4),(true,T4)],[(false,.bool)],Gn⟩)::Wi
theorem Zz:TabOK Tryz.prog (AD pu Wj):=AF Zy sR
theorem sS (x:AG [(true,Pv),(true,Pv)]):Ab Tryz.prog (AD pu Wj) (AJ []) 3000 60 99 [(true,Pv),(true,Pv)] [(false,.bool)] x=ES x:=by kernel_rfl
def Wk:List (FuncId×Sg):=(99,⟨[(true,Pv),(true,Pv)],[(false,.bool)],ES⟩)::Wj
theorem Z0:TabOK Tryz.prog (AD pu Wk):=AF Zz sS
def rK:List (Nat×Nat×Nat×An):=[(26,4,26,.loop { keep:=[0,1,3,7,15,23,11,19,27,9,17,25,13,21,2,8,16,24,12,20,6,10,18,26,14,22],kb:=[0,1],pl:=[.slot 5 false zJ,.slot 4 false .bool],ex:=[(.ret,[]),(.exit 0,[])],pay:=.unit })]
theorem sT (x:AG [(true,K7),(true,K7)]):Ab Tryz.prog (AD pu Wk) (AJ rK) 3000 60 26 [(true,K7),(true,K7)] [(false,.bool)] x=EI x:=by kernel_rfl
def Wl:List (FuncId×Sg):=(26,⟨[(true,K7),(true,K7)],[(false,.bool)],EI⟩)::Wk
theorem Z1:TabOK Tryz.prog (AD pu Wl):=AF Z0 sT
theorem sU (x:AG [(true,GC),(true,GC)]):Ab Tryz.prog (AD pu Wl) (AJ []) 3000 60 49 [(true,GC),(true,GC)] [(false,.bool)] x=FQ x:=by kernel_rfl
def Wm:List (FuncId×Sg):=(49,⟨[(true,GC),(true,GC)],[(false,.bool)],FQ⟩)::Wl
theorem Z3:TabOK Tryz.prog (AD pu Wm):=AF Z1 sU
theorem sV (x:AG [(true,GC)]):Ab Tryz.prog (AD pu Wm) (AJ []) 3000 60 60 [(true,GC)] [(true,GC),zI] x=ET x:=by kernel_rfl
def hC:List (FuncId×Sg):=(60,⟨[(true,GC)],[(true,GC),zI],ET⟩)::Wm
theorem Z4:TabOK Tryz.prog (AD pu hC):=AF Z3 sV
end Go.Proofs.YthpkjfabdccpdaaGreat.Pt
