/- The evaluator comes to each of the plain functions. No condition. -/
import Derived.Test.YtfilfloanndddaaGreatPt0
set_option linter.all false
namespace Go.Proofs.YtfilfloanndddaaGreat.Pt
open Go Go.Proofs.YtfilfloanndddaaGreat.Sv Go.Proofs.YtfilfloanndddaaGreat.Pl
set_option maxRecDepth 1000000
set_option linter.unusedVariables false
theorem qR (x:AP [(true,T4),zI]):OE Tryz.prog (Ad pu ik) (Qq []) 3000 60 110 [(true,T4),zI] [(false,.bool),zI] x=XH x:=by kernel_rfl
def im:List (FuncId×Sg):=(110,⟨[(true,T4),zI],[(false,.bool),zI],XH⟩)::ik
theorem ip:TabOK Tryz.prog (Ad pu im):=R1 il qR
theorem uU (x:AP [(true,T4),zI]):OE Tryz.prog (Ad pu im) (Qq []) 3000 60 67 [(true,T4),zI] [(false,.bool)] x=Tl x:=by kernel_rfl
def iq:List (FuncId×Sg):=(67,⟨[(true,T4),zI],[(false,.bool)],Tl⟩)::im
theorem ir:TabOK Tryz.prog (Ad pu iq):=R1 ip uU
def oa:List (Nat×Nat×Nat×An):=[(157,6,9,.loop { keep:=[0,7,11,9,8,12,10],kb:=[],pl:=[.slot 3 false zJ,.slot 2 false zJ,.slot 4 false zJ],ex:=[(.ret,[]),(.exit 0,[])],pay:=.unit })]
theorem rE (x:AP [(false,(.sl false (.sl true T2)))]):OE Tryz.prog (Ad pu iq) (Qq oa) 3000 60 157 [(false,(.sl false (.sl true T2)))] [zI,zI] x=VW x:=by kernel_rfl
def iu:List (FuncId×Sg):=(157,⟨[(false,(.sl false (.sl true T2)))],[zI,zI],VW⟩)::iq
theorem iv:TabOK Tryz.prog (Ad pu iu):=R1 ir rE
def o9:List (Nat×Nat×Nat×An):=[(202,6,8,.loop { keep:=[0,7,5,9,4,8,6],kb:=[],pl:=[.slot 3 false zJ,.slot 2 false zJ],ex:=[(.ret,[]),(.exit 0,[])],pay:=.unit })]
theorem sE (x:AP [(false,(.sl true T5))]):OE Tryz.prog (Ad pu iu) (Qq o9) 3000 60 202 [(false,(.sl true T5))] [zI] x=WX x:=by kernel_rfl
def iw:List (FuncId×Sg):=(202,⟨[(false,(.sl true T5))],[zI],WX⟩)::iu
theorem iy:TabOK Tryz.prog (Ad pu iw):=R1 iv sE
theorem se (x:AP [(false,(.sl true T5)),zI,zI]):OE Tryz.prog (Ad pu iw) (Qq []) 3000 60 231 [(false,(.sl true T5)),zI,zI] [(false,.bool)] x=WM x:=by kernel_rfl
def i0:List (FuncId×Sg):=(231,⟨[(false,(.sl true T5)),zI,zI],[(false,.bool)],WM⟩)::iw
theorem i4:TabOK Tryz.prog (Ad pu i0):=R1 iy se
theorem sS (r:AP [(false,(.sl true T5)),zI]->Option (AP [zI,zI])) (x:AP [(false,(.sl true T5)),zI]):OE Tryz.prog (Ad pu ((221,⟨[(false,(.sl true T5)),zI],[zI,zI],r⟩)::i0)) (Qq []) 3000 60 221 [(false,(.sl true T5)),zI] [zI,zI] x=TV r x:=by kernel_rfl
def i5:List (FuncId×Sg):=(221,⟨[(false,(.sl true T5)),zI],[zI,zI],Mx (α:=AP [(false,(.sl true T5)),zI]) (β:=AP [zI,zI]) TV 100⟩)::i0
theorem i6:TabOK Tryz.prog (Ad pu i5):=SI i4 sS (by rfl) (by rfl) 100
def pA:List (Nat×Nat×Nat×An):=[(203,3,11,.loop { keep:=[0,3,5,9,2,8,6],kb:=[0],pl:=[.slot 4 false zJ,.box 8 [.ow true T5 false,.ow false zJ true,.lf zJ]],ex:=[(.exit 0,[])],pay:=.unit })]
theorem sF (x:AP [(false,(.sl true T5))]):OE Tryz.prog (Ad pu i5) (Qq pA) 3000 60 203 [(false,(.sl true T5))] [(true,T7)] x=Wt x:=by kernel_rfl
def i7:List (FuncId×Sg):=(203,⟨[(false,(.sl true T5))],[(true,T7)],Wt⟩)::i5
theorem i8:TabOK Tryz.prog (Ad pu i7):=R1 i6 sF
theorem rf (x:AP [(false,(.sl true T5))]):OE Tryz.prog (Ad pu i7) (Qq []) 3000 60 186 [(false,(.sl true T5))] [(true,T7),zI] x=V1 x:=by kernel_rfl
def i9:List (FuncId×Sg):=(186,⟨[(false,(.sl true T5))],[(true,T7),zI],V1⟩)::i7
theorem jA:TabOK Tryz.prog (Ad pu i9):=R1 i8 rf
def oZ:List (Nat×Nat×Nat×An):=[(156,4,12,.loop { keep:=[0,1,15,11,5,9,13,4,12,10,14],kb:=[0,3,8,6],pl:=[.slot 7 false zJ,.srow 6 true T5 false],ex:=[(.exit 0,[])],pay:=.unit })]
theorem rD (x:AP [(false,(.sl false (.sl true T2))),(false,(.sl false zJ))]):OE Tryz.prog (Ad pu i9) (Qq oZ) 3000 60 156 [(false,(.sl false (.sl true T2))),(false,(.sl false zJ))] [(true,T9)] x=U1 x:=by kernel_rfl
def jB:List (FuncId×Sg):=(156,⟨[(false,(.sl false (.sl true T2))),(false,(.sl false zJ))],[(true,T9)],U1⟩)::i9
theorem jC:TabOK Tryz.prog (Ad pu jB):=R1 jA rD
theorem qz (x:AP [(false,(.sl false (.sl true T2)))]):OE Tryz.prog (Ad pu jB) (Qq []) 3000 60 152 [(false,(.sl false (.sl true T2)))] [(true,T9),zI,zI] x=XG x:=by kernel_rfl
def jD:List (FuncId×Sg):=(152,⟨[(false,(.sl false (.sl true T2)))],[(true,T9),zI,zI],XG⟩)::jB
theorem jE:TabOK Tryz.prog (Ad pu jD):=R1 jC qz
theorem q9 (x:AP [(false,.bool)]):OE Tryz.prog (Ad pu jD) (Qq []) 3000 60 153 [(false,.bool)] [(true,Zm)] x=U2 x:=by kernel_rfl
def jF:List (FuncId×Sg):=(153,⟨[(false,.bool)],[(true,Zm)],U2⟩)::jD
theorem jG:TabOK Tryz.prog (Ad pu jF):=R1 jE q9
theorem qS (x:AP [(false,(.sl false (.sl true T2))),(false,.bool)]):OE Tryz.prog (Ad pu jF) (Qq []) 3000 60 111 [(false,(.sl false (.sl true T2))),(false,.bool)] [(true,Xn),zI,zI] x=WZ x:=by kernel_rfl
def jH:List (FuncId×Sg):=(111,⟨[(false,(.sl false (.sl true T2))),(false,.bool)],[(true,Xn),zI,zI],WZ⟩)::jF
theorem jI:TabOK Tryz.prog (Ad pu jH):=R1 jG qS
theorem uV (x:AP [(true,T4),zI,(false,.bool)]):OE Tryz.prog (Ad pu jH) (Qq []) 3000 60 68 [(true,T4),zI,(false,.bool)] [(true,Xj)] x=TT x:=by kernel_rfl
def jJ:List (FuncId×Sg):=(68,⟨[(true,T4),zI,(false,.bool)],[(true,Xj)],TT⟩)::jH
theorem jK:TabOK Tryz.prog (Ad pu jJ):=R1 jI uV
def qH:List (Nat×Nat×Nat×An):=[(96,7,25,.loop { keep:=[0,1,3,7,15,23,11,5,17,25,13,21,2,4,8,16,24,12,20,6,10,26,14,22],kb:=[0,1],pl:=[.slot 9 false zJ,.box 19 [.lf zJ,.lf (.sl true (.sl true T3)),.ow true Xj false,.lf zJ]],ex:=[(.exit 0,[])],pay:=.unit })]
theorem ug (x:AP [(true,T4)]):OE Tryz.prog (Ad pu jJ) (Qq qH) 3000 60 96 [(true,T4)] [(true,Ur),zI] x=Yl x:=by kernel_rfl
def jL:List (FuncId×Sg):=(96,⟨[(true,T4)],[(true,Ur),zI],Yl⟩)::jJ
theorem jM:TabOK Tryz.prog (Ad pu jL):=R1 jK ug
end Go.Proofs.YtfilfloanndddaaGreat.Pt
