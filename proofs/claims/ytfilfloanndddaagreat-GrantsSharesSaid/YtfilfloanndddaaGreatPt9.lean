/- The evaluator comes to each of the plain functions. No condition. -/
import Derived.Test.YtfilfloanndddaaGreatPt8
set_option linter.all false
namespace Go.Proofs.YtfilfloanndddaaGreat.Pt
open Go Go.Proofs.YtfilfloanndddaaGreat.Sv Go.Proofs.YtfilfloanndddaaGreat.Pl
set_option maxRecDepth 1000000
set_option linter.unusedVariables false
def tF:List (Nat×Nat×Nat×An):=[(28,10,42,.loop { keep:=[0,1,7,31,23,39,19,35,27,43,5,17,33,49,25,41,21,37,29,45,4,16,32,48,24,40,20,36,28,44,6,18,34,50,26,42,22,38,30,46],kb:=[0],pl:=[.slot 3 false zJ,.slot 2 false zJ,.slot 8 false zJ],ex:=[(.ret,[]),(.exit 0,[])],pay:=.unit })]
theorem um (x:AH [(true,CG)]):Ac Tryz.prog (AC pu XQ) (AK tF) 3000 60 28 [(true,CG)] [zI,zI] x=DJ x:=by kernel_rfl
def XR:List (FuncId×Sg):=(28,⟨[(true,CG)],[zI,zI],DJ⟩)::XQ
theorem aw:TabOK Tryz.prog (AC pu XR):=AF au um
theorem un (x:AH [(true,CG),zI]):Ac Tryz.prog (AC pu XR) (AK []) 3000 60 48 [(true,CG),zI] [zI] x=Er x:=by kernel_rfl
def XS:List (FuncId×Sg):=(48,⟨[(true,CG),zI],[zI],Er⟩)::XR
theorem ax:TabOK Tryz.prog (AC pu XS):=AF aw un
theorem tG (x:AH [(true,CG)]):Ac Tryz.prog (AC pu XS) (AK []) 3000 60 102 [(true,CG)] [(false,(.sl false zJ)),zI] x=De x:=by kernel_rfl
def XT:List (FuncId×Sg):=(102,⟨[(true,CG)],[(false,(.sl false zJ)),zI],De⟩)::XS
theorem ay:TabOK Tryz.prog (AC pu XT):=AF ax tG
def tH:List (Nat×Nat×Nat×An):=[(55,5,13,.loop { keep:=[0,1,7,15,11,9,13,2,12,6,10,14],kb:=[0],pl:=[.slot 5 false zJ,.slot 4 false zJ,.slot 8 false zJ],ex:=[(.ret,[]),(.exit 0,[])],pay:=.unit })]
theorem uo (x:AH [(true,CG),zI]):Ac Tryz.prog (AC pu XT) (AK tH) 3000 60 55 [(true,CG),zI] [zI,zI] x=B3 x:=by kernel_rfl
def XU:List (FuncId×Sg):=(55,⟨[(true,CG),zI],[zI,zI],B3⟩)::XT
theorem az:TabOK Tryz.prog (AC pu XU):=AF ay uo
theorem uq (x:AH [(true,CG),zI]):Ac Tryz.prog (AC pu XU) (AK []) 3000 60 57 [(true,CG),zI] [zI,zI] x=Cj x:=by kernel_rfl
def XV:List (FuncId×Sg):=(57,⟨[(true,CG),zI],[zI,zI],Cj⟩)::XU
theorem bA:TabOK Tryz.prog (AC pu XV):=AF az uq
theorem tI (x:AH [zI,zI]):Ac Tryz.prog (AC pu XV) (AK []) 3000 60 103 [zI,zI] [zI,zI] x=Gy x:=by kernel_rfl
def XW:List (FuncId×Sg):=(103,⟨[zI,zI],[zI,zI],Gy⟩)::XV
theorem bB:TabOK Tryz.prog (AC pu XW):=AF bA tI
theorem ur (x:AH [(true,CG),(true,Iu)]):Ac Tryz.prog (AC pu XW) (AK []) 3000 60 58 [(true,CG),(true,Iu)] [(false,.bool)] x=Dz x:=by kernel_rfl
def XX:List (FuncId×Sg):=(58,⟨[(true,CG),(true,Iu)],[(false,.bool)],Dz⟩)::XW
theorem bC:TabOK Tryz.prog (AC pu XX):=AF bB ur
theorem us (x:AH [(true,CG),zI]):Ac Tryz.prog (AC pu XX) (AK []) 3000 60 59 [(true,CG),zI] [(false,.bool)] x=Gz x:=by kernel_rfl
def XY:List (FuncId×Sg):=(59,⟨[(true,CG),zI],[(false,.bool)],Gz⟩)::XX
theorem bD:TabOK Tryz.prog (AC pu XY):=AF bC us
theorem ut (x:AH [(true,CG),zI]):Ac Tryz.prog (AC pu XY) (AK []) 3000 60 22 [(true,CG),zI] [(false,.bool),zI] x=EM x:=by kernel_rfl
def XZ:List (FuncId×Sg):=(22,⟨[(true,CG),zI],[(false,.bool),zI],EM⟩)::XY
theorem bE:TabOK Tryz.prog (AC pu XZ):=AF bD ut
def tJ:List (Nat×Nat×Nat×An):=[(73,7,16,.loop { keep:=[0,1,15,11,19,5,9,17,13,4,12,10,18,14],kb:=[0],pl:=[.slot 3 false zJ,.slot 2 false zJ,.slot 6 false zJ],ex:=[(.ret,[]),(.exit 0,[])],pay:=.unit })]
theorem uu (x:AH [(true,CG)]):Ac Tryz.prog (AC pu XZ) (AK tJ) 3000 60 73 [(true,CG)] [zI,zI] x=Fe x:=by kernel_rfl
def Xa:List (FuncId×Sg):=(73,⟨[(true,CG)],[zI,zI],Fe⟩)::XZ
theorem bF:TabOK Tryz.prog (AC pu Xa):=AF bE uu
theorem uv (x:AH [(true,CG),zI,zI]):Ac Tryz.prog (AC pu Xa) (AK []) 3000 60 60 [(true,CG),zI,zI] [(true,CG),zI,zI] x=Ff x:=by kernel_rfl
def Xb:List (FuncId×Sg):=(60,⟨[(true,CG),zI,zI],[(true,CG),zI,zI],Ff⟩)::Xa
theorem bG:TabOK Tryz.prog (AC pu Xb):=AF bF uv
theorem tK (x:AH [(true,CG),zI]):Ac Tryz.prog (AC pu Xb) (AK []) 3000 60 105 [(true,CG),zI] [zI,zI] x=FK x:=by kernel_rfl
def Xc:List (FuncId×Sg):=(105,⟨[(true,CG),zI],[zI,zI],FK⟩)::Xb
theorem bH:TabOK Tryz.prog (AC pu Xc):=AF bG tK
def pE:List (Nat×Nat×Nat×An):=[(106,3,8,.loop { keep:=[0,1,3,7,11,2,12,6,10],kb:=[0,1],pl:=[.slot 8 false zJ,.box 5 [.lf zJ,.ow true (.sl true T3) false]],ex:=[(.exit 0,[])],pay:=.unit }),(106,9,9,.loop { keep:=[0,1,3,7,11,2,8,12,6,10],kb:=[0,1],pl:=[.box 5 [.lf zJ,.lf (.sl true (.sl true T3))]],ex:=[(.exit 2,[])],pay:=.unit,rel:=[(5,1)] })]
theorem tL (x:AH [(true,T4),zI,(false,(.sl true T3))]):Ac Tryz.prog (AC pu Xc) (AK pE) 3000 60 106 [(true,T4),zI,(false,(.sl true T3))] [(true,T4)] x=Cl x:=by kernel_rfl
def Xd:List (FuncId×Sg):=(106,⟨[(true,T4),zI,(false,(.sl true T3))],[(true,T4)],Cl⟩)::Xc
theorem bI:TabOK Tryz.prog (AC pu Xd):=AF bH tL
theorem tM (x:AH [(true,T4),zI]):YE Tryz.prog (AC pu Xd) (AK []) 3000 60 104 [(true,T4),zI] true T3 x=EX x:=by kernel_rfl
def Xe:List (FuncId×Sg):=(4194408,⟨[(true,T4),zI],[(false,(.sl true T3))],EX⟩)::Xd
theorem bJ:TabOK Tryz.prog (AC pu Xe):=kl (f:=104) bI tM
end Go.Proofs.YtfilfloanndddaaGreat.Pt
