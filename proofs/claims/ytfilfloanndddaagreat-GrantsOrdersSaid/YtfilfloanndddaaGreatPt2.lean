/- The evaluator comes to each of the plain functions. No condition. -/
import Derived.Test.YtfilfloanndddaaGreatPt1
set_option linter.all false
namespace Go.Proofs.YtfilfloanndddaaGreat.Pt
open Go Go.Proofs.YtfilfloanndddaaGreat.Sv Go.Proofs.YtfilfloanndddaaGreat.Pl
set_option maxRecDepth 1000000
set_option linter.unusedVariables false
theorem qQ (x:AP []):OE Tryz.prog (Ad pu gP) (Qq []) 3000 60 44 [] [(true,WR)] x=Va x:=by kernel_rfl
def gR:List (FuncId×Sg):=(44,⟨[],[(true,WR)],Va⟩)::gP
theorem gS:TabOK Tryz.prog (Ad pu gR):=R1 gQ qQ
theorem oC (x:AP [(false,.str)]):OE Tryz.prog (Ad pu gR) (Qq []) 3000 60 164 [(false,.str)] [zI] x=Vx x:=by kernel_rfl
def gT:List (FuncId×Sg):=(164,⟨[(false,.str)],[zI],Vx⟩)::gR
theorem gU:TabOK Tryz.prog (Ad pu gT):=R1 gS oC
theorem nU (x:AP [(true,T2)]):OE Tryz.prog (Ad pu gT) (Qq []) 3000 60 127 [(true,T2)] [zI] x=UX x:=by kernel_rfl
def gV:List (FuncId×Sg):=(127,⟨[(true,T2)],[zI],UX⟩)::gT
theorem gW:TabOK Tryz.prog (Ad pu gV):=R1 gU nU
def mS:List (Nat×Nat×Nat×An):=[(188,4,8,.loop { keep:=[0,7,11,9,8,10],kb:=[],pl:=[.slot 3 false zJ,.slot 2 false zJ,.slot 12 false zJ],ex:=[(.ret,[]),(.exit 0,[])],pay:=.unit })]
theorem oS (x:AP [(false,(.sl true T2))]):OE Tryz.prog (Ad pu gV) (Qq mS) 3000 60 188 [(false,(.sl true T2))] [zI,zI] x=To x:=by kernel_rfl
def gX:List (FuncId×Sg):=(188,⟨[(false,(.sl true T2))],[zI,zI],To⟩)::gV
theorem gY:TabOK Tryz.prog (Ad pu gX):=R1 gW oS
theorem oD (x:AP [(true,T3)]):OE Tryz.prog (Ad pu gX) (Qq []) 3000 60 165 [(true,T3)] [zI,zI] x=Wd x:=by kernel_rfl
def gZ:List (FuncId×Sg):=(165,⟨[(true,T3)],[zI,zI],Wd⟩)::gX
theorem ga:TabOK Tryz.prog (Ad pu gZ):=R1 gY oD
theorem oJ (x:AP [(true,T3),zI]):OE Tryz.prog (Ad pu gZ) (Qq []) 3000 60 177 [(true,T3),zI] [zI] x=Uw x:=by kernel_rfl
def gb:List (FuncId×Sg):=(177,⟨[(true,T3),zI],[zI],Uw⟩)::gZ
theorem gf:TabOK Tryz.prog (Ad pu gb):=R1 ga oJ
def mF:List (Nat×Nat×Nat×An):=[(142,8,26,.loop { keep:=[0,1,15,23,11,19,27,5,17,25,13,21,29,16,24,12,20,28,18,26,14,22],kb:=[0],pl:=[.slot 3 false zJ,.slot 2 false zJ,.slot 4 false zJ,.slot 30 false zJ,.map 18 zJ false .bool],ex:=[(.exit 1,[])],pay:=.unit }),(142,14,44,.loop { keep:=[0,1,7,15,31,23,39,11,19,35,27,5,17,33,25,41,13,21,37,29,2,16,32,24,40,12,20,36,28,6,18,34,26,42,14,22,38,30],kb:=[0,30],pl:=[.slot 3 false zJ,.slot 43 false zJ,.slot 4 false zJ,.map 18 zJ false .bool],ex:=[(.exit 1,[]),(.exit 3,[])],pay:=.unit })]
theorem nj (x:AP [(true,T4)]):OE Tryz.prog (Ad pu gb) (Qq mF) 3000 60 142 [(true,T4)] [zI,zI,zI] x=U2 x:=by kernel_rfl
def gh:List (FuncId×Sg):=(142,⟨[(true,T4)],[zI,zI,zI],U2⟩)::gb
theorem gi:TabOK Tryz.prog (Ad pu gh):=R1 gf nj
def mG:List (Nat×Nat×Nat×An):=[(143,2,6,.loop { keep:=[0,1,7,9,8],kb:=[0],pl:=[.slot 2 false zJ,.slot 10 false zJ],ex:=[(.exit 0,[])],pay:=.unit }),(143,5,15,.loop { keep:=[0,1,7,15,11,9,13,4,8,16,12,10,14],kb:=[0,9],pl:=[.slot 17 false zJ,.slot 2 false zJ],ex:=[(.exit 2,[])],pay:=.unit })]
theorem nk (x:AP [(true,T4)]):OE Tryz.prog (Ad pu gh) (Qq mG) 3000 60 143 [(true,T4)] [zI] x=VZ x:=by kernel_rfl
def gj:List (FuncId×Sg):=(143,⟨[(true,T4)],[zI],VZ⟩)::gh
theorem gm:TabOK Tryz.prog (Ad pu gj):=R1 gi nk
theorem nl (x:AP [(true,T4),zI]):OE Tryz.prog (Ad pu gj) (Qq []) 3000 60 144 [(true,T4),zI] [(false,.bool)] x=Uv x:=by kernel_rfl
def gn:List (FuncId×Sg):=(144,⟨[(true,T4),zI],[(false,.bool)],Uv⟩)::gj
theorem gp:TabOK Tryz.prog (Ad pu gn):=R1 gm nl
def ma:List (Nat×Nat×Nat×An):=[(205,6,13,.loop { keep:=[0,15,11,9,17,13,8,16,12,10,14],kb:=[],pl:=[.slot 3 false zJ,.slot 2 false zJ,.slot 18 false zJ],ex:=[(.ret,[]),(.exit 1,[])],pay:=.unit })]
theorem og (x:AP [(false,(.sl false (.sl true T2)))]):OE Tryz.prog (Ad pu gn) (Qq ma) 3000 60 205 [(false,(.sl false (.sl true T2)))] [zI,zI] x=VH x:=by kernel_rfl
def gq:List (FuncId×Sg):=(205,⟨[(false,(.sl false (.sl true T2)))],[zI,zI],VH⟩)::gn
theorem gr:TabOK Tryz.prog (Ad pu gq):=R1 gp og
theorem oW (x:AP [(false,.bool)]):OE Tryz.prog (Ad pu gq) (Qq []) 3000 60 194 [(false,.bool)] [(true,dR)] x=Um x:=by kernel_rfl
def gu:List (FuncId×Sg):=(194,⟨[(false,.bool)],[(true,dR)],Um⟩)::gq
theorem gv:TabOK Tryz.prog (Ad pu gu):=R1 gr oW
theorem pN:L1 Tryz.prog (λf => !pu f) 1000 100 219=true:=by kernel_rfl
theorem ov (a:Ty.den (.sl true T2)) (l:List (Ty.den (.sl true T2))):OE Tryz.prog (Ad pu gu) (Qq []) 3000 60 219 [(false,(.sl false (.sl true T2)))] [(false,(.sl false (.sl true T2)))] (a::l)=TP (a::l):=by kernel_rfl
def gw:List (FuncId×Sg):=(219,⟨[(false,(.sl false (.sl true T2)))],[(false,(.sl false (.sl true T2)))],TP⟩)::gu
theorem gx:TabOK Tryz.prog (Ad pu gw):=R2 (gg:=false) (c:=(.sl true T2)) gv pN rfl ov
theorem pR:Oe Tryz.prog (λf => !pu f) 1000 100 219=true:=by kernel_rfl
theorem pW (a:Ty.den (.sl true T2)) (l:List (Ty.den (.sl true T2))):PZ Tryz.prog (Ad pu gw) (Qq []) 3000 60 219 [(false,(.sl false (.sl true T2)))] false (.sl true T2) (a::l)=TP (a::l):=by kernel_rfl
def gy:List (FuncId×Sg):=(219+Cq,⟨[(false,(.sl false (.sl true T2)))],[(false,(.sl false (.sl true T2)))],TP⟩)::gw
theorem gz:TabOK Tryz.prog (Ad pu gy):=R3 (gg:=false) (c:=(.sl true T2)) gx pR rfl (λa l y h=>Re h) pW
theorem o6 (x:AP [(false,(.sl true T2)),zI]):OE Tryz.prog (Ad pu gy) (Qq []) 3000 60 222 [(false,(.sl true T2)),zI] [(true,T5)] x=Tj x:=by kernel_rfl
def g9:List (FuncId×Sg):=(222,⟨[(false,(.sl true T2)),zI],[(true,T5)],Tj⟩)::gy
theorem hC:TabOK Tryz.prog (Ad pu g9):=R1 gz o6
end Go.Proofs.YtfilfloanndddaaGreat.Pt
