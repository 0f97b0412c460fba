/- The evaluator comes to each of the plain functions. No condition. -/
import Derived.Test.YtfilfloanndddaaGreatPt1
set_option linter.all false
namespace Go.Proofs.YtfilfloanndddaaGreat.Pt
open Go Go.Proofs.YtfilfloanndddaaGreat.Sv Go.Proofs.YtfilfloanndddaaGreat.Pl
set_option maxRecDepth 1000000
set_option linter.unusedVariables false
theorem sj (x:AP []):OE Tryz.prog (Ad pu iO) (Qq []) 3000 60 44 [] [(true,WG)] x=Vj x:=by kernel_rfl
def iR:List (FuncId×Sg):=(44,⟨[],[(true,WG)],Vj⟩)::iO
theorem iS:TabOK Tryz.prog (Ad pu iR):=R1 iQ sj
theorem qG (x:AP [(false,.str)]):OE Tryz.prog (Ad pu iR) (Qq []) 3000 60 164 [(false,.str)] [zI] x=V7 x:=by kernel_rfl
def iT:List (FuncId×Sg):=(164,⟨[(false,.str)],[zI],V7⟩)::iR
theorem iU:TabOK Tryz.prog (Ad pu iT):=R1 iS qG
theorem pR (x:AP [(true,T2)]):OE Tryz.prog (Ad pu iT) (Qq []) 3000 60 127 [(true,T2)] [zI] x=UZ x:=by kernel_rfl
def iV:List (FuncId×Sg):=(127,⟨[(true,T2)],[zI],UZ⟩)::iT
theorem iW:TabOK Tryz.prog (Ad pu iV):=R1 iU pR
def nq:List (Nat×Nat×Nat×An):=[(188,4,8,.loop { keep:=[0,7,11,9,8,10],kb:=[],pl:=[.slot 3 false zJ,.slot 2 false zJ,.slot 12 false zJ],ex:=[(.ret,[]),(.exit 0,[])],pay:=.unit })]
theorem qW (x:AP [(false,(.sl true T2))]):OE Tryz.prog (Ad pu iV) (Qq nq) 3000 60 188 [(false,(.sl true T2))] [zI,zI] x=Ts x:=by kernel_rfl
def iX:List (FuncId×Sg):=(188,⟨[(false,(.sl true T2))],[zI,zI],Ts⟩)::iV
theorem iY:TabOK Tryz.prog (Ad pu iX):=R1 iW qW
theorem qH (x:AP [(true,T3)]):OE Tryz.prog (Ad pu iX) (Qq []) 3000 60 165 [(true,T3)] [zI,zI] x=Wt x:=by kernel_rfl
def iZ:List (FuncId×Sg):=(165,⟨[(true,T3)],[zI,zI],Wt⟩)::iX
theorem ib:TabOK Tryz.prog (Ad pu iZ):=R1 iY qH
theorem qN (x:AP [(true,T3),zI]):OE Tryz.prog (Ad pu iZ) (Qq []) 3000 60 177 [(true,T3),zI] [zI] x=Uy x:=by kernel_rfl
def ic:List (FuncId×Sg):=(177,⟨[(true,T3),zI],[zI],Uy⟩)::iZ
theorem ie:TabOK Tryz.prog (Ad pu ic):=R1 ib qN
def nQ:List (Nat×Nat×Nat×An):=[(142,8,26,.loop { keep:=[0,1,15,23,11,19,27,5,17,25,13,21,29,16,24,12,20,28,18,26,14,22],kb:=[0],pl:=[.slot 3 false zJ,.slot 2 false zJ,.slot 4 false zJ,.slot 30 false zJ,.map 18 zJ false .bool],ex:=[(.exit 1,[])],pay:=.unit }),(142,14,44,.loop { keep:=[0,1,7,15,31,23,39,11,19,35,27,5,17,33,25,41,13,21,37,29,2,16,32,24,40,12,20,36,28,6,18,34,26,42,14,22,38,30],kb:=[0,30],pl:=[.slot 3 false zJ,.slot 43 false zJ,.slot 4 false zJ,.map 18 zJ false .bool],ex:=[(.exit 1,[]),(.exit 3,[])],pay:=.unit })]
theorem pj (x:AP [(true,T4)]):OE Tryz.prog (Ad pu ic) (Qq nQ) 3000 60 142 [(true,T4)] [zI,zI,zI] x=U5 x:=by kernel_rfl
def ig:List (FuncId×Sg):=(142,⟨[(true,T4)],[zI,zI,zI],U5⟩)::ic
theorem ii:TabOK Tryz.prog (Ad pu ig):=R1 ie pj
def nR:List (Nat×Nat×Nat×An):=[(143,2,6,.loop { keep:=[0,1,7,9,8],kb:=[0],pl:=[.slot 2 false zJ,.slot 10 false zJ],ex:=[(.exit 0,[])],pay:=.unit }),(143,5,15,.loop { keep:=[0,1,7,15,11,9,13,4,8,16,12,10,14],kb:=[0,9],pl:=[.slot 17 false zJ,.slot 2 false zJ],ex:=[(.exit 2,[])],pay:=.unit })]
theorem pk (x:AP [(true,T4)]):OE Tryz.prog (Ad pu ig) (Qq nR) 3000 60 143 [(true,T4)] [zI] x=Vi x:=by kernel_rfl
def ij:List (FuncId×Sg):=(143,⟨[(true,T4)],[zI],Vi⟩)::ig
theorem ik:TabOK Tryz.prog (Ad pu ij):=R1 ii pk
theorem pn (x:AP [(true,T4),zI]):OE Tryz.prog (Ad pu ij) (Qq []) 3000 60 144 [(true,T4),zI] [(false,.bool)] x=Ux x:=by kernel_rfl
def il:List (FuncId×Sg):=(144,⟨[(true,T4),zI],[(false,.bool)],Ux⟩)::ij
theorem im:TabOK Tryz.prog (Ad pu il):=R1 ik pn
def oC:List (Nat×Nat×Nat×An):=[(205,6,13,.loop { keep:=[0,15,11,9,17,13,8,16,12,10,14],kb:=[],pl:=[.slot 3 false zJ,.slot 2 false zJ,.slot 18 false zJ],ex:=[(.ret,[]),(.exit 1,[])],pay:=.unit })]
theorem qm (x:AP [(false,(.sl false (.sl true T2)))]):OE Tryz.prog (Ad pu il) (Qq oC) 3000 60 205 [(false,(.sl false (.sl true T2)))] [zI,zI] x=VO x:=by kernel_rfl
def io:List (FuncId×Sg):=(205,⟨[(false,(.sl false (.sl true T2)))],[zI,zI],VO⟩)::il
theorem ip:TabOK Tryz.prog (Ad pu io):=R1 im qm
theorem qc (x:AP [(false,.bool)]):OE Tryz.prog (Ad pu io) (Qq []) 3000 60 194 [(false,.bool)] [(true,Zb)] x=Un x:=by kernel_rfl
def iq:List (FuncId×Sg):=(194,⟨[(false,.bool)],[(true,Zb)],Un⟩)::io
theorem ir:TabOK Tryz.prog (Ad pu iq):=R1 ip qc
theorem rQ:L1 Tryz.prog (λf => !pu f) 1000 100 219=true:=by kernel_rfl
theorem qv (a:Ty.den (.sl true T2)) (l:List (Ty.den (.sl true T2))):OE Tryz.prog (Ad pu iq) (Qq []) 3000 60 219 [(false,(.sl false (.sl true T2)))] [(false,(.sl false (.sl true T2)))] (a::l)=TN (a::l):=by kernel_rfl
def iu:List (FuncId×Sg):=(219,⟨[(false,(.sl false (.sl true T2)))],[(false,(.sl false (.sl true T2)))],TN⟩)::iq
theorem iv:TabOK Tryz.prog (Ad pu iu):=R2 (gg:=false) (c:=(.sl true T2)) ir rQ rfl qv
theorem rU:Oe Tryz.prog (λf => !pu f) 1000 100 219=true:=by kernel_rfl
theorem rf (a:Ty.den (.sl true T2)) (l:List (Ty.den (.sl true T2))):PZ Tryz.prog (Ad pu iu) (Qq []) 3000 60 219 [(false,(.sl false (.sl true T2)))] false (.sl true T2) (a::l)=TN (a::l):=by kernel_rfl
def iw:List (FuncId×Sg):=(219+Cq,⟨[(false,(.sl false (.sl true T2)))],[(false,(.sl false (.sl true T2)))],TN⟩)::iu
theorem iy:TabOK Tryz.prog (Ad pu iw):=R3 (gg:=false) (c:=(.sl true T2)) iv rU rfl (λa l y h=>Re h) rf
theorem qy (x:AP [(false,(.sl true T2)),zI]):OE Tryz.prog (Ad pu iw) (Qq []) 3000 60 222 [(false,(.sl true T2)),zI] [(true,T5)] x=Tl x:=by kernel_rfl
def i0:List (FuncId×Sg):=(222,⟨[(false,(.sl true T2)),zI],[(true,T5)],Tl⟩)::iw
theorem i4:TabOK Tryz.prog (Ad pu i0):=R1 iy qy
end Go.Proofs.YtfilfloanndddaaGreat.Pt
