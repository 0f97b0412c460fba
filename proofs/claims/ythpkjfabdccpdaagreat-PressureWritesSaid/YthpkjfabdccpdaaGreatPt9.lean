/- The evaluator comes to each of the plain functions. No condition. -/
import Derived.Test.YthpkjfabdccpdaaGreatPt8
set_option linter.all false
namespace Go.Proofs.YthpkjfabdccpdaaGreat.Pt
open Go Go.Proofs.YthpkjfabdccpdaaGreat.Sv Go.Proofs.YthpkjfabdccpdaaGreat.Pl
set_option maxRecDepth 1000000
set_option linter.unusedVariables false
def nD:List (Nat×Nat×Nat×An):=[(197,4,27,.loop { keep:=[0,1,3,7,15,23,11,19,27,9,17,25,13,21,2,8,16,24,12,20,28,6,10,18,26,14,22],kb:=[0,1],pl:=[.slot 5 false zJ,.slot 4 false .bool],ex:=[(.ret,[]),(.exit 0,[])],pay:=.unit })]
theorem qp (x:AG [(true,T9),(true,T9)]):Ab Tryz.prog (AD pu WL) (AJ nD) 3000 60 197 [(true,T9),(true,T9)] [(false,.bool)] x=Gg x:=by kernel_rfl
def WM:List (FuncId×Sg):=(197,⟨[(true,T9),(true,T9)],[(false,.bool)],Gg⟩)::WL
theorem Zc:TabOK Tryz.prog (AD pu WM):=AF Zb qp
theorem qq (x:AG [(true,Ii),(true,Ii)]):Ab Tryz.prog (AD pu WM) (AJ []) 3000 60 119 [(true,Ii),(true,Ii)] [(false,.bool)] x=BO x:=by kernel_rfl
def WN:List (FuncId×Sg):=(119,⟨[(true,Ii),(true,Ii)],[(false,.bool)],BO⟩)::WM
theorem Zd:TabOK Tryz.prog (AD pu WN):=AF Zc qq
def qt:List (Nat×Nat×Nat×An):=[(38,10,42,.loop { keep:=[0,1,7,31,23,39,19,35,27,43,5,17,33,49,25,41,21,37,29,45,4,16,32,48,24,40,20,36,28,44,6,18,34,50,26,42,22,38,30,46],kb:=[0],pl:=[.slot 3 false zJ,.slot 2 false zJ,.slot 8 false zJ],ex:=[(.ret,[]),(.exit 0,[])],pay:=.unit })]
theorem sF (x:AG [(true,K7)]):Ab Tryz.prog (AD pu WN) (AJ qt) 3000 60 38 [(true,K7)] [zI,zI] x=Dk x:=by kernel_rfl
def WO:List (FuncId×Sg):=(38,⟨[(true,K7)],[zI,zI],Dk⟩)::WN
theorem Ze:TabOK Tryz.prog (AD pu WO):=AF Zd sF
theorem sG (x:AG [(true,GC)]):Ab Tryz.prog (AD pu WO) (AJ []) 3000 60 51 [(true,GC)] [zI] x=Ec x:=by kernel_rfl
def WP:List (FuncId×Sg):=(51,⟨[(true,GC)],[zI],Ec⟩)::WO
theorem Zf:TabOK Tryz.prog (AD pu WP):=AF Ze sG
def nE:List (Nat×Nat×Nat×An):=[(135,5,27,.loop { keep:=[0,1,15,23,11,19,27,9,17,25,13,21,29,2,4,8,16,24,12,20,28,10,18,26,14,22],kb:=[0],pl:=[.slot 5 false zJ,.slot 6 false zJ],ex:=[(.exit 0,[])],pay:=.unit }),(135,5,26,.loop { keep:=[0,1,15,23,11,19,27,9,17,25,13,21,29,2,4,8,16,24,12,20,28,10,18,26,14,22],kb:=[0],pl:=[.slot 5 false zJ,.slot 6 false zJ],ex:=[(.exit 0,[])],pay:=.unit }),(135,9,28,.loop { keep:=[0,1,15,23,11,19,27,9,17,25,13,21,29,2,4,8,16,24,12,20,28,6,10,18,26,14,22],kb:=[0],pl:=[.slot 7 false zJ,.slot 5 false zJ],ex:=[(.exit 2,[])],pay:=.unit }),(135,9,27,.loop { keep:=[0,1,15,23,11,19,27,9,17,25,13,21,29,2,4,8,16,24,12,20,28,6,10,18,26,14,22],kb:=[0],pl:=[.slot 7 false zJ,.slot 5 false zJ],ex:=[(.exit 2,[])],pay:=.unit })]
theorem qu (x:AG [(true,GC),(false,(.sl true T2))]):Ab Tryz.prog (AD pu WP) (AJ nE) 3000 60 135 [(true,GC),(false,(.sl true T2))] [zI] x=Fl x:=by kernel_rfl
def WQ:List (FuncId×Sg):=(135,⟨[(true,GC),(false,(.sl true T2))],[zI],Fl⟩)::WP
theorem Zg:TabOK Tryz.prog (AD pu WQ):=AF Zf qu
def nF:List (Nat×Nat×Nat×An):=[(206,5,18,.loop { keep:=[0,1,15,11,19,5,9,17,13,2,4,8,16,12,10,18,14],kb:=[0],pl:=[.slot 7 false zJ,.slot 6 false zJ],ex:=[(.exit 0,[])],pay:=.unit }),(206,5,17,.loop { keep:=[0,1,15,11,19,5,9,17,13,2,4,8,16,12,10,18,14],kb:=[0],pl:=[.slot 7 false zJ,.slot 6 false zJ],ex:=[(.exit 0,[])],pay:=.unit })]
theorem qv (x:AG [(true,T3),(false,(.sl true T2))]):Ab Tryz.prog (AD pu WQ) (AJ nF) 3000 60 206 [(true,T3),(false,(.sl true T2))] [zI] x=Fm x:=by kernel_rfl
def WR:List (FuncId×Sg):=(206,⟨[(true,T3),(false,(.sl true T2))],[zI],Fm⟩)::WQ
theorem Zh:TabOK Tryz.prog (AD pu WR):=AF Zg qv
def nG:List (Nat×Nat×Nat×An):=[(236,5,7,.loop { keep:=[0,1,3,5,4],kb:=[0],pl:=[.slot 7 false zJ,.slot 9 false zJ,.slot 8 false .bool,.srow 6 true T2 false],ex:=[(.exit 0,[])],pay:=.unit })]
theorem qw (x:AG [(false,(.sl true T2)),(true,T2)]):Ab Tryz.prog (AD pu WR) (AJ nG) 3000 60 236 [(false,(.sl true T2)),(true,T2)] [(false,(.sl true T2)),zI] x=GA x:=by kernel_rfl
def WS:List (FuncId×Sg):=(236,⟨[(false,(.sl true T2)),(true,T2)],[(false,(.sl true T2)),zI],GA⟩)::WR
theorem Zi:TabOK Tryz.prog (AD pu WS):=AF Zh qw
def nH:List (Nat×Nat×Nat×An):=[(207,3,10,.loop { keep:=[0,1,11,5,13,2,4,12,14],kb:=[0,6],pl:=[.slot 7 false zJ,.slot 8 false zJ,.slot 6 false (.sl true T2)],ex:=[(.exit 0,[])],pay:=.unit,relS:=[6] })]
theorem qx (x:AG [(true,T3),(false,(.sl true T2))]):Ab Tryz.prog (AD pu WS) (AJ nH) 3000 60 207 [(true,T3),(false,(.sl true T2))] [(false,(.sl true T2)),zI] x=E7 x:=by kernel_rfl
def WT:List (FuncId×Sg):=(207,⟨[(true,T3),(false,(.sl true T2))],[(false,(.sl true T2)),zI],E7⟩)::WS
theorem Zj:TabOK Tryz.prog (AD pu WT):=AF Zi qx
theorem qy (x:AG [(true,T3),(false,(.sl true T2))]):Ab Tryz.prog (AD pu WT) (AJ []) 3000 60 136 [(true,T3),(false,(.sl true T2))] [(false,.bool),zI] x=FS x:=by kernel_rfl
def WU:List (FuncId×Sg):=(136,⟨[(true,T3),(false,(.sl true T2))],[(false,.bool),zI],FS⟩)::WT
theorem Zk:TabOK Tryz.prog (AD pu WU):=AF Zj qy
theorem sH (x:AG [(true,GC),(false,(.sl true T2))]):Ab Tryz.prog (AD pu WU) (AJ []) 3000 60 53 [(true,GC),(false,(.sl true T2))] [(false,.bool),zI] x=Fo x:=by kernel_rfl
def WV:List (FuncId×Sg):=(53,⟨[(true,GC),(false,(.sl true T2))],[(false,.bool),zI],Fo⟩)::WU
theorem Zl:TabOK Tryz.prog (AD pu WV):=AF Zk sH
theorem qz (x:AG [(true,GC)]):Ab Tryz.prog (AD pu WV) (AJ []) 3000 60 138 [(true,GC)] [(false,.bool)] x=Gq x:=by kernel_rfl
def WW:List (FuncId×Sg):=(138,⟨[(true,GC)],[(false,.bool)],Gq⟩)::WV
theorem Zm:TabOK Tryz.prog (AD pu WW):=AF Zl qz
theorem sI (x:AG [(true,T4),zI]):W6 Tryz.prog (AD pu WW) (AJ []) 3000 60 42 [(true,T4),zI] true T3 x=Dd x:=by kernel_rfl
def WX:List (FuncId×Sg):=(4194346,⟨[(true,T4),zI],[(false,(.sl true T3))],Dd⟩)::WW
theorem Zn:TabOK Tryz.prog (AD pu WX):=jB (f:=42) Zm sI
def q9:List (Nat×Nat×Nat×An):=[(96,3,8,.loop { keep:=[0,1,3,7,11,2,12,6,10],kb:=[0,1],pl:=[.slot 8 false zJ,.box 5 [.lf zJ,.ow true (.sl true T3) false]],ex:=[(.exit 0,[])],pay:=.unit }),(96,9,9,.loop { keep:=[0,1,3,7,11,2,8,12,6,10],kb:=[0,1],pl:=[.box 5 [.lf zJ,.lf (.sl true (.sl true T3))]],ex:=[(.exit 2,[])],pay:=.unit,rel:=[(5,1)] })]
theorem sJ (x:AG [(true,T4),zI,(false,(.sl true T3))]):Ab Tryz.prog (AD pu WX) (AJ q9) 3000 60 96 [(true,T4),zI,(false,(.sl true T3))] [(true,T4)] x=Dc x:=by kernel_rfl
def WY:List (FuncId×Sg):=(96,⟨[(true,T4),zI,(false,(.sl true T3))],[(true,T4)],Dc⟩)::WX
theorem Zo:TabOK Tryz.prog (AD pu WY):=AF Zn sJ
def nI:List (Nat×Nat×Nat×An):=[(111,7,19,.loop { keep:=[0,1,3,7,15,23,11,5,17,13,21,2,8,16,24,20,6,10,14,22],kb:=[0,1,2],pl:=[.srow 9 false zJ false,.slot 12 false zJ],ex:=[(.exit 0,[])],pay:=.unit })]
theorem rB (x:AG [(true,T4),zI,(true,T3)]):Ab Tryz.prog (AD pu WY) (AJ nI) 3000 60 111 [(true,T4),zI,(true,T3)] [(true,T4),zI] x=E5 x:=by kernel_rfl
def WZ:List (FuncId×Sg):=(111,⟨[(true,T4),zI,(true,T3)],[(true,T4),zI],E5⟩)::WY
theorem Zp:TabOK Tryz.prog (AD pu WZ):=AF Zo rB
end Go.Proofs.YthpkjfabdccpdaaGreat.Pt
