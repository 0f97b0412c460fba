/- The evaluator comes to each of the plain functions. No condition. -/
import Derived.Test.YtfilfloanndddaaGreatPt9
set_option linter.all false
namespace Go.Proofs.YtfilfloanndddaaGreat.Pt
open Go Go.Proofs.YtfilfloanndddaaGreat.Sv Go.Proofs.YtfilfloanndddaaGreat.Pl
set_option maxRecDepth 1000000
set_option linter.unusedVariables false
theorem tN (x:AH [(true,T4),zI]):Ac Tryz.prog (AC pu Xe) (AK []) 3000 60 149 [(true,T4),zI] [(true,Iu),zI] x=Bx x:=by kernel_rfl
def Xf:List (FuncId×Sg):=(149,⟨[(true,T4),zI],[(true,Iu),zI],Bx⟩)::Xe
theorem bK:TabOK Tryz.prog (AC pu Xf):=AF bJ tN
def tO:List (Nat×Nat×Nat×An):=[(107,3,98,.loop { keep:=[0,1,3,7,13,2,4,12,6,14],kb:=[0,1,92,90,70,54],pl:=[.slot 8 false zJ,.box 91 [.lf zJ,.lf (.sl true (.sl true T3)),.ow true Iu false,.lf zJ]],ex:=[(.exit 0,[])],pay:=.unit }),(107,3,73,.loop { keep:=[0,1,3,7,13,2,4,12,6,14],kb:=[0,1,67,65,54],pl:=[.slot 8 false zJ,.box 66 [.lf zJ,.lf (.sl true (.sl true T3)),.ow true Iu false,.lf zJ]],ex:=[(.exit 0,[])],pay:=.unit }),(107,7,116,.loop { keep:=[0,1,3,7,15,23,27,9,17,25,13,21,29,2,4,8,16,24,12,28,6,10,18,26,14,22,30],kb:=[0,1,91,92,90,70,54],pl:=[.slot 11 false zJ,.box 112 [.lf zJ,.lf (.sl false (.sl true T2)),.lf (.sl false zJ),.lf (.sl true T5),.lf (.sl false zJ),.lf zJ,.lf .bool,.lf .str,.lf .bool,.lf (.sl true T2),.lf zJ]],ex:=[(.exit 2,[])],pay:=.unit }),(107,7,91,.loop { keep:=[0,1,3,7,15,23,27,9,17,25,13,21,29,2,4,8,16,24,12,28,6,10,18,26,14,22,30],kb:=[0,1,67,65,66,54],pl:=[.slot 11 false zJ,.box 87 [.lf zJ,.lf (.sl false (.sl true T2)),.lf (.sl false zJ),.lf (.sl true T5),.lf (.sl false zJ),.lf zJ,.lf .bool,.lf .str,.lf .bool,.lf (.sl true T2),.lf zJ]],ex:=[(.exit 2,[])],pay:=.unit }),(107,7,117,.loop { keep:=[0,1,3,7,15,23,27,9,17,25,13,21,29,2,4,8,16,24,12,28,6,10,18,26,14,22,30],kb:=[0,1,91,92,98,90,70,54],pl:=[.slot 11 false zJ,.box 113 [.lf zJ,.lf (.sl false (.sl true T2)),.lf (.sl false zJ),.lf (.sl true T5),.lf (.sl false zJ),.lf zJ,.lf .bool,.lf .str,.lf .bool,.lf (.sl true T2),.lf zJ]],ex:=[(.exit 2,[])],pay:=.unit }),(107,7,92,.loop { keep:=[0,1,3,7,15,23,27,9,17,25,13,21,29,2,4,8,16,24,12,28,6,10,18,26,14,22,30],kb:=[0,1,67,65,73,66,54],pl:=[.slot 11 false zJ,.box 88 [.lf zJ,.lf (.sl false (.sl true T2)),.lf (.sl false zJ),.lf (.sl true T5),.lf (.sl false zJ),.lf zJ,.lf .bool,.lf .str,.lf .bool,.lf (.sl true T2),.lf zJ]],ex:=[(.exit 2,[])],pay:=.unit })]
theorem uw (x:AH [(true,CG),zI]):Ac Tryz.prog (AC pu Xf) (AK tO) 3000 60 61 [(true,CG),zI] [(true,CG),zI] x=Df x:=by kernel_rfl
def Xg:List (FuncId×Sg):=(61,⟨[(true,CG),zI],[(true,CG),zI],Df⟩)::Xf
theorem bL:TabOK Tryz.prog (AC pu Xg):=AF bK uw
theorem ux (x:AH [(true,CG),zI]):Ac Tryz.prog (AC pu Xg) (AK []) 3000 60 23 [(true,CG),zI] [(true,CG),(false,.bool),zI] x=EZ x:=by kernel_rfl
def Xh:List (FuncId×Sg):=(23,⟨[(true,CG),zI],[(true,CG),(false,.bool),zI],EZ⟩)::Xg
theorem bM:TabOK Tryz.prog (AC pu Xh):=AF bL ux
theorem uy (x:AH [(true,CG)]):Ac Tryz.prog (AC pu Xh) (AK []) 3000 60 56 [(true,CG)] [(true,CG),zI,(false,.bool),zI] x=Dm x:=by kernel_rfl
def Xi:List (FuncId×Sg):=(56,⟨[(true,CG)],[(true,CG),zI,(false,.bool),zI],Dm⟩)::Xh
theorem bN:TabOK Tryz.prog (AC pu Xi):=AF bM uy
def tQ:List (Nat×Nat×Nat×An):=[(49,3,7,.loop { keep:=[0,1,5,2,4,8],kb:=[],pl:=[.slot 7 false zJ,.srow 9 false zJ false,.srow 6 false zJ false,.box 1 [.lf zJ,.ow true (.sl true T3) false,.ow true Iu false,.lf zJ],.box 0 [.lf zJ,.lf (.sl true (.sl true T3)),.lf (.sl true Iu),.lf zJ],.box 2 [.lf zJ,.lf zJ,.lf zJ,.lf zJ,.lf zJ,.lf zJ,.lf zJ,.lf zJ,.lf zJ,.lf zJ,.lf zJ,.lf zJ,.lf zJ,.lf zJ,.lf zJ],.box 5 [.lf zJ,.lf zJ,.lf zJ,.lf zJ,.lf zJ,.lf zJ,.lf zJ,.lf zJ,.lf zJ,.lf zJ,.lf zJ,.lf zJ,.lf zJ,.lf zJ,.lf zJ]],ex:=[(.exit 0,[]),(.ret,[])],pay:=.unit })]
theorem uz (x:AH [(true,CG),zI]):Ac Tryz.prog (AC pu Xi) (AK tQ) 3000 60 49 [(true,CG),zI] [(true,CG),(true,nM),(false,(.sl false zJ)),zI] x=EG x:=by kernel_rfl
def Xj:List (FuncId×Sg):=(49,⟨[(true,CG),zI],[(true,CG),(true,nM),(false,(.sl false zJ)),zI],EG⟩)::Xi
theorem bO:TabOK Tryz.prog (AC pu Xj):=AF bN uz
theorem u3 (x:AH [(true,CG),zI]):Ac Tryz.prog (AC pu Xj) (AK []) 3000 60 15 [(true,CG),zI] [(true,CG),(true,nM),zI] x=F4 x:=by kernel_rfl
def Xk:List (FuncId×Sg):=(15,⟨[(true,CG),zI],[(true,CG),(true,nM),zI],F4⟩)::Xj
theorem bQ:TabOK Tryz.prog (AC pu Xk):=AF bO u3
def tR:List (Nat×Nat×Nat×An):=[(43,2,2,.loop { keep:=[0,1],kb:=[],pl:=[.slot 5 false zJ,.slot 4 false .bool],ex:=[(.ret,[]),(.exit 0,[])],pay:=.unit })]
theorem u4 (x:AH [(false,(.sl true T2)),(false,(.sl true T2))]):Ac Tryz.prog (AC pu Xk) (AK tR) 3000 60 43 [(false,(.sl true T2)),(false,(.sl true T2))] [(false,.bool)] x=D9 x:=by kernel_rfl
def Xl:List (FuncId×Sg):=(43,⟨[(false,(.sl true T2)),(false,(.sl true T2))],[(false,.bool)],D9⟩)::Xk
theorem bR:TabOK Tryz.prog (AC pu Xl):=AF bQ u4
theorem tT (x:AH [(true,T3),(true,T3)]):Ac Tryz.prog (AC pu Xl) (AK []) 3000 60 147 [(true,T3),(true,T3)] [(false,.bool)] x=Eh x:=by kernel_rfl
def Xm:List (FuncId×Sg):=(147,⟨[(true,T3),(true,T3)],[(false,.bool)],Eh⟩)::Xl
theorem bS:TabOK Tryz.prog (AC pu Xm):=AF bR tT
def tU:List (Nat×Nat×Nat×An):=[(98,4,7,.loop { keep:=[0,1,7,9,8,6,10],kb:=[],pl:=[.slot 5 false zJ,.slot 4 false .bool],ex:=[(.ret,[]),(.exit 0,[])],pay:=.unit })]
theorem u5 (x:AH [(false,(.sl true T3)),(false,(.sl true T3))]):Ac Tryz.prog (AC pu Xm) (AK tU) 3000 60 98 [(false,(.sl true T3)),(false,(.sl true T3))] [(false,.bool)] x=EA x:=by kernel_rfl
def Xn:List (FuncId×Sg):=(98,⟨[(false,(.sl true T3)),(false,(.sl true T3))],[(false,.bool)],EA⟩)::Xm
theorem bT:TabOK Tryz.prog (AC pu Xn):=AF bS u5
def tV:List (Nat×Nat×Nat×An):=[(50,4,18,.loop { keep:=[0,1,3,7,15,11,19,9,17,13,2,8,16,12,6,10,18,14],kb:=[0,1],pl:=[.slot 5 false zJ,.slot 4 false .bool],ex:=[(.ret,[]),(.exit 0,[])],pay:=.unit })]
theorem u6 (x:AH [(true,T4),(true,T4)]):Ac Tryz.prog (AC pu Xn) (AK tV) 3000 60 50 [(true,T4),(true,T4)] [(false,.bool)] x=G0 x:=by kernel_rfl
def Xo:List (FuncId×Sg):=(50,⟨[(true,T4),(true,T4)],[(false,.bool)],G0⟩)::Xn
theorem bU:TabOK Tryz.prog (AC pu Xo):=AF bT u6
theorem u7 (x:AH [(true,Iu),(true,Iu)]):Ac Tryz.prog (AC pu Xo) (AK []) 3000 60 51 [(true,Iu),(true,Iu)] [(false,.bool)] x=Ei x:=by kernel_rfl
def Xp:List (FuncId×Sg):=(51,⟨[(true,Iu),(true,Iu)],[(false,.bool)],Ei⟩)::Xo
theorem bV:TabOK Tryz.prog (AC pu Xp):=AF bU u7
def tW:List (Nat×Nat×Nat×An):=[(16,4,26,.loop { keep:=[0,1,3,7,15,23,11,19,27,9,17,25,13,21,2,8,16,24,12,20,6,10,18,26,14,22],kb:=[0,1],pl:=[.slot 5 false zJ,.slot 4 false .bool],ex:=[(.ret,[]),(.exit 0,[])],pay:=.unit })]
theorem u9 (x:AH [(true,CG),(true,CG)]):Ac Tryz.prog (AC pu Xp) (AK tW) 3000 60 16 [(true,CG),(true,CG)] [(false,.bool)] x=EY x:=by kernel_rfl
def Xq:List (FuncId×Sg):=(16,⟨[(true,CG),(true,CG)],[(false,.bool)],EY⟩)::Xp
theorem bW:TabOK Tryz.prog (AC pu Xq):=AF bV u9
theorem vA (x:AH [(true,CG),zI]):Ac Tryz.prog (AC pu Xq) (AK []) 3000 60 18 [(true,CG),zI] [(false,(.sl false zJ)),zI] x=F5 x:=by kernel_rfl
def Xr:List (FuncId×Sg):=(18,⟨[(true,CG),zI],[(false,(.sl false zJ)),zI],F5⟩)::Xq
theorem bX:TabOK Tryz.prog (AC pu Xr):=AF bW vA
def tX:List (Nat×Nat×Nat×An):=[(19,4,7,.loop { keep:=[0,1,7,9,8,6,10],kb:=[],pl:=[.slot 5 false zJ,.slot 4 false .bool],ex:=[(.ret,[]),(.exit 0,[])],pay:=.unit })]
theorem vB (x:AH [(false,(.sl false zJ)),(false,(.sl false zJ))]):Ac Tryz.prog (AC pu Xr) (AK tX) 3000 60 19 [(false,(.sl false zJ)),(false,(.sl false zJ))] [(false,.bool)] x=G9 x:=by kernel_rfl
def jd:List (FuncId×Sg):=(19,⟨[(false,(.sl false zJ)),(false,(.sl false zJ))],[(false,.bool)],G9⟩)::Xr
theorem bY:TabOK Tryz.prog (AC pu jd):=AF bX vB
end Go.Proofs.YtfilfloanndddaaGreat.Pt
