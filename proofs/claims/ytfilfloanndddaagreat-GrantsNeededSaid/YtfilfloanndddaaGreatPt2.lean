/- The evaluator comes to each of the plain functions. No condition. -/
import Derived.Test.YtfilfloanndddaaGreatPt1
set_option linter.all false
namespace Go.Proofs.YtfilfloanndddaaGreat.Pt
open Go Go.Proofs.YtfilfloanndddaaGreat.Sv Go.Proofs.YtfilfloanndddaaGreat.Pl
set_option maxRecDepth 1000000
set_option linter.unusedVariables false
theorem su (x:AP []):OE Tryz.prog (Ad pu ie) (Qq []) 3000 60 44 [] [(true,Vt)] x=Vk x:=by kernel_rfl
def ii:List (FuncId×Sg):=(44,⟨[],[(true,Vt)],Vk⟩)::ie
theorem ij:TabOK Tryz.prog (Ad pu ii):=R1 ig su
theorem qL (x:AP [(false,.str)]):OE Tryz.prog (Ad pu ii) (Qq []) 3000 60 164 [(false,.str)] [zI] x=WB x:=by kernel_rfl
def ik:List (FuncId×Sg):=(164,⟨[(false,.str)],[zI],WB⟩)::ii
theorem il:TabOK Tryz.prog (Ad pu ik):=R1 ij qL
theorem pX (x:AP [(true,T2)]):OE Tryz.prog (Ad pu ik) (Qq []) 3000 60 127 [(true,T2)] [zI] x=UZ x:=by kernel_rfl
def im:List (FuncId×Sg):=(127,⟨[(true,T2)],[zI],UZ⟩)::ik
theorem io:TabOK Tryz.prog (Ad pu im):=R1 il pX
def oF:List (Nat×Nat×Nat×An):=[(188,4,8,.loop { keep:=[0,7,11,9,8,10],kb:=[],pl:=[.slot 3 false zJ,.slot 2 false zJ,.slot 12 false zJ],ex:=[(.ret,[]),(.exit 0,[])],pay:=.unit })]
theorem qd (x:AP [(false,(.sl true T2))]):OE Tryz.prog (Ad pu im) (Qq oF) 3000 60 188 [(false,(.sl true T2))] [zI,zI] x=Ts x:=by kernel_rfl
def ip:List (FuncId×Sg):=(188,⟨[(false,(.sl true T2))],[zI,zI],Ts⟩)::im
theorem iq:TabOK Tryz.prog (Ad pu ip):=R1 io qd
theorem qM (x:AP [(true,T3)]):OE Tryz.prog (Ad pu ip) (Qq []) 3000 60 165 [(true,T3)] [zI,zI] x=Ws x:=by kernel_rfl
def ir:List (FuncId×Sg):=(165,⟨[(true,T3)],[zI,zI],Ws⟩)::ip
theorem iu:TabOK Tryz.prog (Ad pu ir):=R1 iq qM
theorem qS (x:AP [(true,T3),zI]):OE Tryz.prog (Ad pu ir) (Qq []) 3000 60 177 [(true,T3),zI] [zI] x=U0 x:=by kernel_rfl
def iv:List (FuncId×Sg):=(177,⟨[(true,T3),zI],[zI],U0⟩)::ir
theorem iw:TabOK Tryz.prog (Ad pu iv):=R1 iu qS
def nh:List (Nat×Nat×Nat×An):=[(142,8,26,.loop { keep:=[0,1,15,23,11,19,27,5,17,25,13,21,29,16,24,12,20,28,18,26,14,22],kb:=[0],pl:=[.slot 3 false zJ,.slot 2 false zJ,.slot 4 false zJ,.slot 30 false zJ,.map 18 zJ false .bool],ex:=[(.exit 1,[])],pay:=.unit }),(142,14,44,.loop { keep:=[0,1,7,15,31,23,39,11,19,35,27,5,17,33,25,41,13,21,37,29,2,16,32,24,40,12,20,36,28,6,18,34,26,42,14,22,38,30],kb:=[0,30],pl:=[.slot 3 false zJ,.slot 43 false zJ,.slot 4 false zJ,.map 18 zJ false .bool],ex:=[(.exit 1,[]),(.exit 3,[])],pay:=.unit })]
theorem pw (x:AP [(true,T4)]):OE Tryz.prog (Ad pu iv) (Qq nh) 3000 60 142 [(true,T4)] [zI,zI,zI] x=U4 x:=by kernel_rfl
def iy:List (FuncId×Sg):=(142,⟨[(true,T4)],[zI,zI,zI],U4⟩)::iv
theorem i0:TabOK Tryz.prog (Ad pu iy):=R1 iw pw
def ni:List (Nat×Nat×Nat×An):=[(143,2,6,.loop { keep:=[0,1,7,9,8],kb:=[0],pl:=[.slot 2 false zJ,.slot 10 false zJ],ex:=[(.exit 0,[])],pay:=.unit }),(143,5,15,.loop { keep:=[0,1,7,15,11,9,13,4,8,16,12,10,14],kb:=[0,9],pl:=[.slot 17 false zJ,.slot 2 false zJ],ex:=[(.exit 2,[])],pay:=.unit })]
theorem px (x:AP [(true,T4)]):OE Tryz.prog (Ad pu iy) (Qq ni) 3000 60 143 [(true,T4)] [zI] x=Vj x:=by kernel_rfl
def i4:List (FuncId×Sg):=(143,⟨[(true,T4)],[zI],Vj⟩)::iy
theorem i5:TabOK Tryz.prog (Ad pu i4):=R1 i0 px
theorem py (x:AP [(true,T4),zI]):OE Tryz.prog (Ad pu i4) (Qq []) 3000 60 144 [(true,T4),zI] [(false,.bool)] x=Uz x:=by kernel_rfl
def i6:List (FuncId×Sg):=(144,⟨[(true,T4),zI],[(false,.bool)],Uz⟩)::i4
theorem i7:TabOK Tryz.prog (Ad pu i6):=R1 i5 py
def oN:List (Nat×Nat×Nat×An):=[(205,6,13,.loop { keep:=[0,15,11,9,17,13,8,16,12,10,14],kb:=[],pl:=[.slot 3 false zJ,.slot 2 false zJ,.slot 18 false zJ],ex:=[(.ret,[]),(.exit 1,[])],pay:=.unit })]
theorem qt (x:AP [(false,(.sl false (.sl true T2)))]):OE Tryz.prog (Ad pu i6) (Qq oN) 3000 60 205 [(false,(.sl false (.sl true T2)))] [zI,zI] x=VN x:=by kernel_rfl
def i8:List (FuncId×Sg):=(205,⟨[(false,(.sl false (.sl true T2)))],[zI,zI],VN⟩)::i6
theorem i9:TabOK Tryz.prog (Ad pu i8):=R1 i7 qt
theorem qi (x:AP [(false,.bool)]):OE Tryz.prog (Ad pu i8) (Qq []) 3000 60 194 [(false,.bool)] [(true,Zh)] x=Uo x:=by kernel_rfl
def jA:List (FuncId×Sg):=(194,⟨[(false,.bool)],[(true,Zh)],Uo⟩)::i8
theorem jB:TabOK Tryz.prog (Ad pu jA):=R1 i9 qi
theorem rV:L1 Tryz.prog (λf => !pu f) 1000 100 219=true:=by kernel_rfl
theorem q9 (a:Ty.den (.sl true T2)) (l:List (Ty.den (.sl true T2))):OE Tryz.prog (Ad pu jA) (Qq []) 3000 60 219 [(false,(.sl false (.sl true T2)))] [(false,(.sl false (.sl true T2)))] (a::l)=TQ (a::l):=by kernel_rfl
def jC:List (FuncId×Sg):=(219,⟨[(false,(.sl false (.sl true T2)))],[(false,(.sl false (.sl true T2)))],TQ⟩)::jA
theorem jD:TabOK Tryz.prog (Ad pu jC):=R2 (gg:=false) (c:=(.sl true T2)) jB rV rfl q9
theorem rm:Oe Tryz.prog (λf => !pu f) 1000 100 219=true:=by kernel_rfl
theorem rt (a:Ty.den (.sl true T2)) (l:List (Ty.den (.sl true T2))):PZ Tryz.prog (Ad pu jC) (Qq []) 3000 60 219 [(false,(.sl false (.sl true T2)))] false (.sl true T2) (a::l)=TQ (a::l):=by kernel_rfl
def jE:List (FuncId×Sg):=(219+Cq,⟨[(false,(.sl false (.sl true T2)))],[(false,(.sl false (.sl true T2)))],TQ⟩)::jC
theorem jF:TabOK Tryz.prog (Ad pu jE):=R3 (gg:=false) (c:=(.sl true T2)) jD rm rfl (λa l y h=>Re h) rt
theorem rD (x:AP [(false,(.sl true T2)),zI]):OE Tryz.prog (Ad pu jE) (Qq []) 3000 60 222 [(false,(.sl true T2)),zI] [(true,T5)] x=Tl x:=by kernel_rfl
def jG:List (FuncId×Sg):=(222,⟨[(false,(.sl true T2)),zI],[(true,T5)],Tl⟩)::jE
theorem jH:TabOK Tryz.prog (Ad pu jG):=R1 jF rD
end Go.Proofs.YtfilfloanndddaaGreat.Pt
