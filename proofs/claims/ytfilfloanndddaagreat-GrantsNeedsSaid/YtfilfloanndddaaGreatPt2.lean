/- The evaluator comes to each of the plain functions. No condition. -/
import Derived.Test.YtfilfloanndddaaGreatPt1
set_option linter.all false
namespace Go.Proofs.YtfilfloanndddaaGreat.Pt
open Go Go.Proofs.YtfilfloanndddaaGreat.Sv Go.Proofs.YtfilfloanndddaaGreat.Pl
set_option maxRecDepth 1000000
set_option linter.unusedVariables false
theorem si (x:AP []):OE Tryz.prog (Ad pu iR) (Qq []) 3000 60 44 [] [(true,Ub)] x=Vj x:=by kernel_rfl
def iT:List (FuncId×Sg):=(44,⟨[],[(true,Ub)],Vj⟩)::iR
theorem iU:TabOK Tryz.prog (Ad pu iT):=R1 iS si
theorem qE (x:AP [(false,.str)]):OE Tryz.prog (Ad pu iT) (Qq []) 3000 60 164 [(false,.str)] [zI] x=V8 x:=by kernel_rfl
def iV:List (FuncId×Sg):=(164,⟨[(false,.str)],[zI],V8⟩)::iT
theorem iW:TabOK Tryz.prog (Ad pu iV):=R1 iU qE
theorem pO (x:AP [(true,T2)]):OE Tryz.prog (Ad pu iV) (Qq []) 3000 60 127 [(true,T2)] [zI] x=UW x:=by kernel_rfl
def iX:List (FuncId×Sg):=(127,⟨[(true,T2)],[zI],UW⟩)::iV
theorem iY:TabOK Tryz.prog (Ad pu iX):=R1 iW pO
def ni:List (Nat×Nat×Nat×An):=[(188,4,8,.loop { keep:=[0,7,11,9,8,10],kb:=[],pl:=[.slot 3 false zJ,.slot 2 false zJ,.slot 12 false zJ],ex:=[(.ret,[]),(.exit 0,[])],pay:=.unit })]
theorem qU (x:AP [(false,(.sl true T2))]):OE Tryz.prog (Ad pu iX) (Qq ni) 3000 60 188 [(false,(.sl true T2))] [zI,zI] x=Tn x:=by kernel_rfl
def iZ:List (FuncId×Sg):=(188,⟨[(false,(.sl true T2))],[zI,zI],Tn⟩)::iX
theorem ib:TabOK Tryz.prog (Ad pu iZ):=R1 iY qU
theorem qF (x:AP [(true,T3)]):OE Tryz.prog (Ad pu iZ) (Qq []) 3000 60 165 [(true,T3)] [zI,zI] x=Ws x:=by kernel_rfl
def ic:List (FuncId×Sg):=(165,⟨[(true,T3)],[zI,zI],Ws⟩)::iZ
theorem ie:TabOK Tryz.prog (Ad pu ic):=R1 ib qF
theorem qL (x:AP [(true,T3),zI]):OE Tryz.prog (Ad pu ic) (Qq []) 3000 60 177 [(true,T3),zI] [zI] x=Ux x:=by kernel_rfl
def ig:List (FuncId×Sg):=(177,⟨[(true,T3),zI],[zI],Ux⟩)::ic
theorem ii:TabOK Tryz.prog (Ad pu ig):=R1 ie qL
def nK:List (Nat×Nat×Nat×An):=[(142,8,26,.loop { keep:=[0,1,15,23,11,19,27,5,17,25,13,21,29,16,24,12,20,28,18,26,14,22],kb:=[0],pl:=[.slot 3 false zJ,.slot 2 false zJ,.slot 4 false zJ,.slot 30 false zJ,.map 18 zJ false .bool],ex:=[(.exit 1,[])],pay:=.unit }),(142,14,44,.loop { keep:=[0,1,7,15,31,23,39,11,19,35,27,5,17,33,25,41,13,21,37,29,2,16,32,24,40,12,20,36,28,6,18,34,26,42,14,22,38,30],kb:=[0,30],pl:=[.slot 3 false zJ,.slot 43 false zJ,.slot 4 false zJ,.map 18 zJ false .bool],ex:=[(.exit 1,[]),(.exit 3,[])],pay:=.unit })]
theorem pY (x:AP [(true,T4)]):OE Tryz.prog (Ad pu ig) (Qq nK) 3000 60 142 [(true,T4)] [zI,zI,zI] x=U2 x:=by kernel_rfl
def ij:List (FuncId×Sg):=(142,⟨[(true,T4)],[zI,zI,zI],U2⟩)::ig
theorem ik:TabOK Tryz.prog (Ad pu ij):=R1 ii pY
def nL:List (Nat×Nat×Nat×An):=[(143,2,6,.loop { keep:=[0,1,7,9,8],kb:=[0],pl:=[.slot 2 false zJ,.slot 10 false zJ],ex:=[(.exit 0,[])],pay:=.unit }),(143,5,15,.loop { keep:=[0,1,7,15,11,9,13,4,8,16,12,10,14],kb:=[0,9],pl:=[.slot 17 false zJ,.slot 2 false zJ],ex:=[(.exit 2,[])],pay:=.unit })]
theorem pZ (x:AP [(true,T4)]):OE Tryz.prog (Ad pu ij) (Qq nL) 3000 60 143 [(true,T4)] [zI] x=Vi x:=by kernel_rfl
def il:List (FuncId×Sg):=(143,⟨[(true,T4)],[zI],Vi⟩)::ij
theorem im:TabOK Tryz.prog (Ad pu il):=R1 ik pZ
theorem pf (x:AP [(true,T4),zI]):OE Tryz.prog (Ad pu il) (Qq []) 3000 60 144 [(true,T4),zI] [(false,.bool)] x=Uw x:=by kernel_rfl
def io:List (FuncId×Sg):=(144,⟨[(true,T4),zI],[(false,.bool)],Uw⟩)::il
theorem ip:TabOK Tryz.prog (Ad pu io):=R1 im pf
def nv:List (Nat×Nat×Nat×An):=[(205,6,13,.loop { keep:=[0,15,11,9,17,13,8,16,12,10,14],kb:=[],pl:=[.slot 3 false zJ,.slot 2 false zJ,.slot 18 false zJ],ex:=[(.ret,[]),(.exit 1,[])],pay:=.unit })]
theorem qk (x:AP [(false,(.sl false (.sl true T2)))]):OE Tryz.prog (Ad pu io) (Qq nv) 3000 60 205 [(false,(.sl false (.sl true T2)))] [zI,zI] x=VJ x:=by kernel_rfl
def iq:List (FuncId×Sg):=(205,⟨[(false,(.sl false (.sl true T2)))],[zI,zI],VJ⟩)::io
theorem ir:TabOK Tryz.prog (Ad pu iq):=R1 ip qk
theorem qY (x:AP [(false,.bool)]):OE Tryz.prog (Ad pu iq) (Qq []) 3000 60 194 [(false,.bool)] [(true,ZQ)] x=Un x:=by kernel_rfl
def iu:List (FuncId×Sg):=(194,⟨[(false,.bool)],[(true,ZQ)],Un⟩)::iq
theorem iv:TabOK Tryz.prog (Ad pu iu):=R1 ir qY
theorem rN:L1 Tryz.prog (λf => !pu f) 1000 100 219=true:=by kernel_rfl
theorem qt (a:Ty.den (.sl true T2)) (l:List (Ty.den (.sl true T2))):OE Tryz.prog (Ad pu iu) (Qq []) 3000 60 219 [(false,(.sl false (.sl true T2)))] [(false,(.sl false (.sl true T2)))] (a::l)=TN (a::l):=by kernel_rfl
def iw:List (FuncId×Sg):=(219,⟨[(false,(.sl false (.sl true T2)))],[(false,(.sl false (.sl true T2)))],TN⟩)::iu
theorem iy:TabOK Tryz.prog (Ad pu iw):=R2 (gg:=false) (c:=(.sl true T2)) iv rN rfl qt
theorem rT:Oe Tryz.prog (λf => !pu f) 1000 100 219=true:=by kernel_rfl
theorem ra (a:Ty.den (.sl true T2)) (l:List (Ty.den (.sl true T2))):PZ Tryz.prog (Ad pu iw) (Qq []) 3000 60 219 [(false,(.sl false (.sl true T2)))] false (.sl true T2) (a::l)=TN (a::l):=by kernel_rfl
def i0:List (FuncId×Sg):=(219+Cq,⟨[(false,(.sl false (.sl true T2)))],[(false,(.sl false (.sl true T2)))],TN⟩)::iw
theorem i4:TabOK Tryz.prog (Ad pu i0):=R3 (gg:=false) (c:=(.sl true T2)) iy rT rfl (λa l y h=>Re h) ra
theorem qw (x:AP [(false,(.sl true T2)),zI]):OE Tryz.prog (Ad pu i0) (Qq []) 3000 60 222 [(false,(.sl true T2)),zI] [(true,T5)] x=Ti x:=by kernel_rfl
def i5:List (FuncId×Sg):=(222,⟨[(false,(.sl true T2)),zI],[(true,T5)],Ti⟩)::i0
theorem i6:TabOK Tryz.prog (Ad pu i5):=R1 i4 qw
end Go.Proofs.YtfilfloanndddaaGreat.Pt
