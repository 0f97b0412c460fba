/- The evaluator comes to each of the plain functions. No condition. -/
import Derived.Test.YtfilfloanndddaaGreatPt5
set_option linter.all false
namespace Go.Proofs.YtfilfloanndddaaGreat.Pt
open Go Go.Proofs.YtfilfloanndddaaGreat.Sv Go.Proofs.YtfilfloanndddaaGreat.Pl
set_option maxRecDepth 1000000
set_option linter.unusedVariables false
theorem uV (x:AH [(true,CG),zI]):Ac Tryz.prog (AC pu i4) (AK []) 3000 60 91 [(true,CG),zI] [(true,Yz),zI] x=Ck x:=by kernel_rfl
def i6:List (FuncId×Sg):=(91,⟨[(true,CG),zI],[(true,Yz),zI],Ck⟩)::i4
theorem i7:TabOK Tryz.prog (AC pu i6):=AF i5 uV
theorem uW (x:AH [(true,Yz)]):Ac Tryz.prog (AC pu i6) (AK []) 3000 60 93 [(true,Yz)] [(false,.bool)] x=BB x:=by kernel_rfl
def i8:List (FuncId×Sg):=(93,⟨[(true,Yz)],[(false,.bool)],BB⟩)::i6
theorem i9:TabOK Tryz.prog (AC pu i8):=AF i7 uW
theorem sE (x:AH [zI,zI]):Ac Tryz.prog (AC pu i8) (AK []) 3000 60 171 [zI,zI] [zI,zI] x=Fx x:=by kernel_rfl
def jA:List (FuncId×Sg):=(171,⟨[zI,zI],[zI,zI],Fx⟩)::i8
theorem jB:TabOK Tryz.prog (AC pu jA):=AF i9 sE
theorem sF (x:AH [(true,Yz)]):Ac Tryz.prog (AC pu jA) (AK []) 3000 60 135 [(true,Yz)] [(false,.bool)] x=BU x:=by kernel_rfl
def jC:List (FuncId×Sg):=(135,⟨[(true,Yz)],[(false,.bool)],BU⟩)::jA
theorem jD:TabOK Tryz.prog (AC pu jC):=AF jB sF
theorem sG (x:AH [(true,T4),zI]):Ac Tryz.prog (AC pu jC) (AK []) 3000 60 174 [(true,T4),zI] [zI] x=FI x:=by kernel_rfl
def jE:List (FuncId×Sg):=(174,⟨[(true,T4),zI],[zI],FI⟩)::jC
theorem jF:TabOK Tryz.prog (AC pu jE):=AF jD sG
theorem sH (x:AH [(true,T4),zI]):Ac Tryz.prog (AC pu jE) (AK []) 3000 60 163 [(true,T4),zI] [(false,.bool),zI] x=Fy x:=by kernel_rfl
def jG:List (FuncId×Sg):=(163,⟨[(true,T4),zI],[(false,.bool),zI],Fy⟩)::jE
theorem jH:TabOK Tryz.prog (AC pu jG):=AF jF sH
theorem sI (x:AH [(true,Yz)]):Ac Tryz.prog (AC pu jG) (AK []) 3000 60 136 [(true,Yz)] [(false,.bool)] x=Ct x:=by kernel_rfl
def jI:List (FuncId×Sg):=(136,⟨[(true,Yz)],[(false,.bool)],Ct⟩)::jG
theorem jJ:TabOK Tryz.prog (AC pu jI):=AF jH sI
def sJ:List (Nat×Nat×Nat×An):=[(92,2,11,.loop { keep:=[0,1,7,11,5,9,8,12,6,10],kb:=[0],pl:=[.slot 13 false zJ,.slot 2 false .bool],ex:=[(.ret,[]),(.exit 0,[])],pay:=.unit })]
theorem uX (x:AH [(true,Yz)]):Ac Tryz.prog (AC pu jI) (AK sJ) 3000 60 92 [(true,Yz)] [(false,.bool)] x=Bi x:=by kernel_rfl
def jK:List (FuncId×Sg):=(92,⟨[(true,Yz)],[(false,.bool)],Bi⟩)::jI
theorem jL:TabOK Tryz.prog (AC pu jK):=AF jJ uX
def sK:List (Nat×Nat×Nat×An):=[(41,8,21,.loop { keep:=[0,1,15,23,11,19,17,13,21,4,16,24,12,20,10,14,22],kb:=[0],pl:=[.slot 3 false zJ,.slot 5 false .bool,.slot 25 false zJ,.slot 2 false zJ],ex:=[(.ret,[]),(.exit 1,[])],pay:=.unit })]
theorem uY (x:AH [(true,CG)]):Ac Tryz.prog (AC pu jK) (AK sK) 3000 60 41 [(true,CG)] [zI,zI] x=BW x:=by kernel_rfl
def jM:List (FuncId×Sg):=(41,⟨[(true,CG)],[zI,zI],BW⟩)::jK
theorem jN:TabOK Tryz.prog (AC pu jM):=AF jL uY
theorem sL:ML Tryz.prog (λf => !pu f) 1000 100 138=true:=by kernel_rfl
theorem sN (a:Ty.den Iu) (l:List (Ty.den Iu)):Ac Tryz.prog (AC pu jM) (AK []) 3000 60 138 [(false,(.sl true Iu))] [(false,(.sl true Iu))] (a::l)=Be (a::l):=by kernel_rfl
def jO:List (FuncId×Sg):=(138,⟨[(false,(.sl true Iu))],[(false,(.sl true Iu))],Be⟩)::jM
theorem jP:TabOK Tryz.prog (AC pu jO):=NM (gg:=true) (c:=Iu) jN sL rfl sN
theorem sO:OI Tryz.prog (λf => !pu f) 1000 100 138=true:=by kernel_rfl
theorem sQ (a:Ty.den Iu) (l:List (Ty.den Iu)):Pp Tryz.prog (AC pu jO) (AK []) 3000 60 138 [(false,(.sl true Iu))] true Iu (a::l)=Be (a::l):=by kernel_rfl
def jQ:List (FuncId×Sg):=(138+GS,⟨[(false,(.sl true Iu))],[(false,(.sl true Iu))],Be⟩)::jO
theorem jR:TabOK Tryz.prog (AC pu jQ):=NN (gg:=true) (c:=Iu) jP sO rfl (λa l y h=>NO h) sQ
theorem ua (x:AH [(true,CG),zI,zI]):Ac Tryz.prog (AC pu jQ) (AK []) 3000 60 94 [(true,CG),zI,zI] [(true,CG),zI,zI] x=Hm x:=by kernel_rfl
def jS:List (FuncId×Sg):=(94,⟨[(true,CG),zI,zI],[(true,CG),zI,zI],Hm⟩)::jQ
theorem jT:TabOK Tryz.prog (AC pu jS):=AF jR ua
def ot:List (Nat×Nat×Nat×An):=[(176,5,30,.loop { keep:=[0,1,3,7,15,31,23,11,19,27,9,17,25,13,21,29,2,16,32,24,12,20,28,6,10,18,26,14,22,30],kb:=[0,1,12,10],pl:=[.slot 8 false zJ],ex:=[(.exit 0,[])],pay:=.unit })]
theorem sR (x:AH [(true,T4),zI,(false,(.sl true T3))]):Ac Tryz.prog (AC pu jS) (AK ot) 3000 60 176 [(true,T4),zI,(false,(.sl true T3))] [(true,T4)] x=Dy x:=by kernel_rfl
def jU:List (FuncId×Sg):=(176,⟨[(true,T4),zI,(false,(.sl true T3))],[(true,T4)],Dy⟩)::jS
theorem jV:TabOK Tryz.prog (AC pu jU):=AF jT sR
theorem sS (x:AH [(true,T4),zI]):Ac Tryz.prog (AC pu jU) (AK []) 3000 60 139 [(true,T4),zI] [(true,T4),(false,(.sl true T3)),zI] x=DQ x:=by kernel_rfl
def jW:List (FuncId×Sg):=(139,⟨[(true,T4),zI],[(true,T4),(false,(.sl true T3)),zI],DQ⟩)::jU
theorem jX:TabOK Tryz.prog (AC pu jW):=AF jV sS
end Go.Proofs.YtfilfloanndddaaGreat.Pt
