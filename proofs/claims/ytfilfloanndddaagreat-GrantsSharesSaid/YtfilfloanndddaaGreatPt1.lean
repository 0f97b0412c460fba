/- The evaluator comes to each of the plain functions. No condition. -/
import Derived.Test.YtfilfloanndddaaGreatPt0
set_option linter.all false
namespace Go.Proofs.YtfilfloanndddaaGreat.Pt
open Go Go.Proofs.YtfilfloanndddaaGreat.Sv Go.Proofs.YtfilfloanndddaaGreat.Pl
set_option maxRecDepth 1000000
set_option linter.unusedVariables false
theorem qJ (x:AH [(true,T4),zI]):Ac Tryz.prog (AC pu ei) (AK []) 3000 60 110 [(true,T4),zI] [(false,.bool),zI] x=HZ x:=by kernel_rfl
def eu:List (FuncId×Sg):=(110,⟨[(true,T4),zI],[(false,.bool),zI],HZ⟩)::ei
theorem ew:TabOK Tryz.prog (AC pu eu):=AF ej qJ
theorem uN (x:AH [(true,T4),zI]):Ac Tryz.prog (AC pu eu) (AK []) 3000 60 67 [(true,T4),zI] [(false,.bool)] x=BT x:=by kernel_rfl
def ez:List (FuncId×Sg):=(67,⟨[(true,T4),zI],[(false,.bool)],BT⟩)::eu
theorem e8:TabOK Tryz.prog (AC pu ez):=AF ew uN
def oI:List (Nat×Nat×Nat×An):=[(157,6,9,.loop { keep:=[0,7,11,9,8,12,10],kb:=[],pl:=[.slot 3 false zJ,.slot 2 false zJ,.slot 4 false zJ],ex:=[(.ret,[]),(.exit 0,[])],pay:=.unit })]
theorem qK (x:AH [(false,(.sl false (.sl true T2)))]):Ac Tryz.prog (AC pu ez) (AK oI) 3000 60 157 [(false,(.sl false (.sl true T2)))] [zI,zI] x=Dv x:=by kernel_rfl
def e9:List (FuncId×Sg):=(157,⟨[(false,(.sl false (.sl true T2)))],[zI,zI],Dv⟩)::ez
theorem fA:TabOK Tryz.prog (AC pu e9):=AF e8 qK
def oJ:List (Nat×Nat×Nat×An):=[(202,6,8,.loop { keep:=[0,7,5,9,4,8,6],kb:=[],pl:=[.slot 3 false zJ,.slot 2 false zJ],ex:=[(.ret,[]),(.exit 0,[])],pay:=.unit })]
theorem qL (x:AH [(false,(.sl true T5))]):Ac Tryz.prog (AC pu e9) (AK oJ) 3000 60 202 [(false,(.sl true T5))] [zI] x=Ft x:=by kernel_rfl
def fB:List (FuncId×Sg):=(202,⟨[(false,(.sl true T5))],[zI],Ft⟩)::e9
theorem fC:TabOK Tryz.prog (AC pu fB):=AF fA qL
theorem qM (x:AH [(false,(.sl true T5)),zI,zI]):Ac Tryz.prog (AC pu fB) (AK []) 3000 60 231 [(false,(.sl true T5)),zI,zI] [(false,.bool)] x=Fb x:=by kernel_rfl
def fD:List (FuncId×Sg):=(231,⟨[(false,(.sl true T5)),zI,zI],[(false,.bool)],Fb⟩)::fB
theorem fE:TabOK Tryz.prog (AC pu fD):=AF fC qM
theorem qN (r:AH [(false,(.sl true T5)),zI]->Option (AH [zI,zI])) (x:AH [(false,(.sl true T5)),zI]):Ac Tryz.prog (AC pu ((221,⟨[(false,(.sl true T5)),zI],[zI,zI],r⟩)::fD)) (AK []) 3000 60 221 [(false,(.sl true T5)),zI] [zI,zI] x=A4 r x:=by kernel_rfl
def fF:List (FuncId×Sg):=(221,⟨[(false,(.sl true T5)),zI],[zI,zI],Ko (α:=AH [(false,(.sl true T5)),zI]) (β:=AH [zI,zI]) A4 100⟩)::fD
theorem fG:TabOK Tryz.prog (AC pu fF):=km fE qN (by rfl) (by rfl) 100
def oK:List (Nat×Nat×Nat×An):=[(203,3,11,.loop { keep:=[0,3,5,9,2,8,6],kb:=[0],pl:=[.slot 4 false zJ,.box 8 [.ow true T5 false,.ow false zJ true,.lf zJ]],ex:=[(.exit 0,[])],pay:=.unit })]
theorem qO (x:AH [(false,(.sl true T5))]):Ac Tryz.prog (AC pu fF) (AK oK) 3000 60 203 [(false,(.sl true T5))] [(true,T7)] x=Gs x:=by kernel_rfl
def fH:List (FuncId×Sg):=(203,⟨[(false,(.sl true T5))],[(true,T7)],Gs⟩)::fF
theorem fI:TabOK Tryz.prog (AC pu fH):=AF fG qO
theorem qP (x:AH [(false,(.sl true T5))]):Ac Tryz.prog (AC pu fH) (AK []) 3000 60 186 [(false,(.sl true T5))] [(true,T7),zI] x=Ep x:=by kernel_rfl
def fJ:List (FuncId×Sg):=(186,⟨[(false,(.sl true T5))],[(true,T7),zI],Ep⟩)::fH
theorem fK:TabOK Tryz.prog (AC pu fJ):=AF fI qP
def oL:List (Nat×Nat×Nat×An):=[(156,4,12,.loop { keep:=[0,1,15,11,5,9,13,4,12,10,14],kb:=[0,3,8,6],pl:=[.slot 7 false zJ,.srow 6 true T5 false],ex:=[(.exit 0,[])],pay:=.unit })]
theorem qQ (x:AH [(false,(.sl false (.sl true T2))),(false,(.sl false zJ))]):Ac Tryz.prog (AC pu fJ) (AK oL) 3000 60 156 [(false,(.sl false (.sl true T2))),(false,(.sl false zJ))] [(true,T9)] x=DH x:=by kernel_rfl
def fL:List (FuncId×Sg):=(156,⟨[(false,(.sl false (.sl true T2))),(false,(.sl false zJ))],[(true,T9)],DH⟩)::fJ
theorem fM:TabOK Tryz.prog (AC pu fL):=AF fK qQ
theorem qR (x:AH [(false,(.sl false (.sl true T2)))]):Ac Tryz.prog (AC pu fL) (AK []) 3000 60 152 [(false,(.sl false (.sl true T2)))] [(true,T9),zI,zI] x=Ha x:=by kernel_rfl
def fN:List (FuncId×Sg):=(152,⟨[(false,(.sl false (.sl true T2)))],[(true,T9),zI,zI],Ha⟩)::fL
theorem fO:TabOK Tryz.prog (AC pu fN):=AF fM qR
theorem qS (x:AH [(false,.bool)]):Ac Tryz.prog (AC pu fN) (AK []) 3000 60 153 [(false,.bool)] [(true,Qk)] x=DI x:=by kernel_rfl
def fQ:List (FuncId×Sg):=(153,⟨[(false,.bool)],[(true,Qk)],DI⟩)::fN
theorem fR:TabOK Tryz.prog (AC pu fQ):=AF fO qS
theorem qT (x:AH [(false,(.sl false (.sl true T2))),(false,.bool)]):Ac Tryz.prog (AC pu fQ) (AK []) 3000 60 111 [(false,(.sl false (.sl true T2))),(false,.bool)] [(true,I6),zI,zI] x=Fu x:=by kernel_rfl
def fS:List (FuncId×Sg):=(111,⟨[(false,(.sl false (.sl true T2))),(false,.bool)],[(true,I6),zI,zI],Fu⟩)::fQ
theorem fT:TabOK Tryz.prog (AC pu fS):=AF fR qT
theorem uO (x:AH [(true,T4),zI,(false,.bool)]):Ac Tryz.prog (AC pu fS) (AK []) 3000 60 68 [(true,T4),zI,(false,.bool)] [(true,Iu)] x=Aw x:=by kernel_rfl
def fU:List (FuncId×Sg):=(68,⟨[(true,T4),zI,(false,.bool)],[(true,Iu)],Aw⟩)::fS
theorem fV:TabOK Tryz.prog (AC pu fU):=AF fT uO
def qU:List (Nat×Nat×Nat×An):=[(96,7,25,.loop { keep:=[0,1,3,7,15,23,11,5,17,25,13,21,2,4,8,16,24,12,20,6,10,26,14,22],kb:=[0,1],pl:=[.slot 9 false zJ,.box 19 [.lf zJ,.lf (.sl true (.sl true T3)),.ow true Iu false,.lf zJ]],ex:=[(.exit 0,[])],pay:=.unit })]
theorem uQ (x:AH [(true,T4)]):Ac Tryz.prog (AC pu fU) (AK qU) 3000 60 96 [(true,T4)] [(true,CG),zI] x=MN x:=by kernel_rfl
def fW:List (FuncId×Sg):=(96,⟨[(true,T4)],[(true,CG),zI],MN⟩)::fU
theorem fX:TabOK Tryz.prog (AC pu fW):=AF fV uQ
end Go.Proofs.YtfilfloanndddaaGreat.Pt
