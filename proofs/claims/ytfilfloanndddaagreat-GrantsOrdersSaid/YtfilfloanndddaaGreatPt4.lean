/- The evaluator comes to each of the plain functions. No condition. -/
import Derived.Test.YtfilfloanndddaaGreatPt3
set_option linter.all false
namespace Go.Proofs.YtfilfloanndddaaGreat.Pt
open Go Go.Proofs.YtfilfloanndddaaGreat.Sv Go.Proofs.YtfilfloanndddaaGreat.Pl
set_option maxRecDepth 1000000
set_option linter.unusedVariables false
theorem om (x:AP [(true,T7)]):OE Tryz.prog (Ad pu ib) (Qq []) 3000 60 208 [(true,T7)] [zI,(false,.str),zI] x=Ul x:=by kernel_rfl
def ie:List (FuncId×Sg):=(208,⟨[(true,T7)],[zI,(false,.str),zI],Ul⟩)::ib
theorem ig:TabOK Tryz.prog (Ad pu ie):=R1 ic om
theorem o9 (x:AP [(false,.str)]):OE Tryz.prog (Ad pu ie) (Qq []) 3000 60 225 [(false,.str)] [(false,.bool)] x=U0 x:=by kernel_rfl
def ii:List (FuncId×Sg):=(225,⟨[(false,.str)],[(false,.bool)],U0⟩)::ie
theorem ij:TabOK Tryz.prog (Ad pu ii):=R1 ig o9
theorem ot (x:AP [(false,.str),(false,.str)]):OE Tryz.prog (Ad pu ii) (Qq []) 3000 60 210 [(false,.str),(false,.str)] [zI] x=Ui x:=by kernel_rfl
def ik:List (FuncId×Sg):=(210,⟨[(false,.str),(false,.str)],[zI],Ui⟩)::ii
theorem il:TabOK Tryz.prog (Ad pu ik):=R1 ij ot
theorem pA (x:AP [zI]):OE Tryz.prog (Ad pu ik) (Qq []) 3000 60 226 [zI] [(false,.bool)] x=VY x:=by kernel_rfl
def im:List (FuncId×Sg):=(226,⟨[zI],[(false,.bool)],VY⟩)::ik
theorem io:TabOK Tryz.prog (Ad pu im):=R1 il pA
theorem ou (x:AP [zI,zI]):OE Tryz.prog (Ad pu im) (Qq []) 3000 60 211 [zI,zI] [zI] x=US x:=by kernel_rfl
def ip:List (FuncId×Sg):=(211,⟨[zI,zI],[zI],US⟩)::im
theorem iq:TabOK Tryz.prog (Ad pu ip):=R1 io ou
def mc:List (Nat×Nat×Nat×An):=[(209,3,5,.loop { keep:=[0,3,7,6],kb:=[],pl:=[.slot 2 false zJ,.slot 8 false zJ],ex:=[(.ret,[]),(.exit 0,[])],pay:=.unit })]
theorem oq (x:AP [(false,(.sl false zJ))]):OE Tryz.prog (Ad pu ip) (Qq mc) 3000 60 209 [(false,(.sl false zJ))] [zI] x=WU x:=by kernel_rfl
def ir:List (FuncId×Sg):=(209,⟨[(false,(.sl false zJ))],[zI],WU⟩)::ip
theorem iu:TabOK Tryz.prog (Ad pu ir):=R1 iq oq
def mT:List (Nat×Nat×Nat×An):=[(191,7,24,.loop { keep:=[0,1,15,31,23,19,27,5,17,25,13,29,4,16,24,12,28,18,26,14,22,30],kb:=[0],pl:=[.slot 3 false zJ,.slot 2 false zJ,.slot 32 false zJ],ex:=[(.ret,[]),(.exit 0,[])],pay:=.unit }),(191,18,49,.loop { keep:=[0,1,15,31,63,23,71,55,19,67,51,27,59,5,9,17,65,25,57,13,69,53,29,61,4,8,16,32,64,24,56,12,68,52,28,60,18,66,26,58,14,22,70,54,30,62],kb:=[0],pl:=[.slot 3 false zJ,.slot 2 false zJ,.slot 72 false zJ],ex:=[(.ret,[]),(.exit 2,[])],pay:=.unit })]
theorem oT (x:AP [(true,T9)]):OE Tryz.prog (Ad pu ir) (Qq mT) 3000 60 191 [(true,T9)] [zI,zI] x=VG x:=by kernel_rfl
def iv:List (FuncId×Sg):=(191,⟨[(true,T9)],[zI,zI],VG⟩)::ir
theorem iw:TabOK Tryz.prog (Ad pu iv):=R1 iu oT
theorem pO:L1 Tryz.prog (λf => !pu f) 1000 100 228=true:=by kernel_rfl
theorem pB (a:Ty.den zJ) (l:List (Ty.den zJ)):OE Tryz.prog (Ad pu iv) (Qq []) 3000 60 228 [(false,(.sl false zJ))] [(false,(.sl false zJ))] (a::l)=TW (a::l):=by kernel_rfl
def iy:List (FuncId×Sg):=(228,⟨[(false,(.sl false zJ))],[(false,(.sl false zJ))],TW⟩)::iv
theorem i0:TabOK Tryz.prog (Ad pu iy):=R2 (gg:=false) (c:=zJ) iw pO rfl pB
theorem pT:Oe Tryz.prog (λf => !pu f) 1000 100 228=true:=by kernel_rfl
theorem pX (a:Ty.den zJ) (l:List (Ty.den zJ)):PZ Tryz.prog (Ad pu iy) (Qq []) 3000 60 228 [(false,(.sl false zJ))] false zJ (a::l)=TW (a::l):=by kernel_rfl
def i4:List (FuncId×Sg):=(228+Cq,⟨[(false,(.sl false zJ))],[(false,(.sl false zJ))],TW⟩)::iy
theorem i5:TabOK Tryz.prog (Ad pu i4):=R3 (gg:=false) (c:=zJ) i0 pT rfl (λa l y h=>Re h) pX
theorem pK (x:AP [zI,zI,(true,m7)]):PW Tryz.prog (Ad pu i4) (Qq []) 3000 60 239 [zI,zI,(true,m7)] [(false,.bool)] x=UA x:=by kernel_rfl
def i6:List (FuncId×Sg):=(3145967,⟨[zI,zI,(true,m7)],[(false,.bool)],UA⟩)::i4
theorem i7:TabOK Tryz.prog (Ad pu i6):=SH (f:=239) i5 pK
def me:List (Nat×Nat×Nat×An):=[(229,13,63,.loop { keep:=[0,1,3,7,31,63,47,55,11,19,35,51,27,43,59,9,17,33,49,25,41,57,13,21,37,53,29,61,2,4,8,32,24,40,56,12,20,36,52,28,44,60,6,18,34,50,26,42,58,14,38,54,30,46,62],kb:=[0,1,33,52],pl:=[.slot 5 false zJ,.slot 10 false zJ,.box 2 [.kp 33,.ow false zJ false,.lf zJ]],ex:=[(.exit 0,[])],pay:=.unit })]
theorem pC (x:AP [(true,T7),(true,T5)]):OE Tryz.prog (Ad pu i6) (Qq me) 3000 60 229 [(true,T7),(true,T5)] [(true,T7),zI,zI] x=UY x:=by kernel_rfl
def i8:List (FuncId×Sg):=(229,⟨[(true,T7),(true,T5)],[(true,T7),zI,zI],UY⟩)::i6
theorem i9:TabOK Tryz.prog (Ad pu i8):=R1 i7 pC
def mU:List (Nat×Nat×Nat×An):=[(227,0,45,.loop { keep:=[0,1],kb:=[39,35,43,9,13,44],pl:=[.box 0 [.ow true T2 false],.box 1 [.ow false zJ false]],ex:=[(.ret,[(44,0,none)])],pay:=.unit }),(207,3,47,.loop { keep:=[0,1,11,13,4,10,14],kb:=[0,1,39,27,13,30],pl:=[.slot 15 false zJ,.srow 5 true T5 true],ex:=[(.exit 0,[])],pay:=.unit }),(227,0,72,.loop { keep:=[0,1],kb:=[47,39,71,9,13,53,66,70,30],pl:=[.box 0 [.ow true T2 false],.box 1 [.ow false zJ false],.box 62 [.kp 30,.ow false zJ true,.lf (.sl true T5),.lf (.sl false zJ),.lf zJ]],ex:=[(.ret,[(71,0,none)])],pay:=.unit })]
theorem oU (x:AP [(false,(.sl false (.sl true T2)))]):OE Tryz.prog (Ad pu i8) (Qq mU) 3000 60 192 [(false,(.sl false (.sl true T2)))] [(false,(.sl true T2)),(false,(.sl false zJ)),zI] x=Wz x:=by kernel_rfl
def jA:List (FuncId×Sg):=(192,⟨[(false,(.sl false (.sl true T2)))],[(false,(.sl true T2)),(false,(.sl false zJ)),zI],Wz⟩)::i8
theorem jB:TabOK Tryz.prog (Ad pu jA):=R1 i9 oU
theorem pD (x:AP [(true,dR)]):OE Tryz.prog (Ad pu jA) (Qq []) 3000 60 230 [(true,dR)] [zI] x=VP x:=by kernel_rfl
def jC:List (FuncId×Sg):=(230,⟨[(true,dR)],[zI],VP⟩)::jA
theorem jD:TabOK Tryz.prog (Ad pu jC):=R1 jB pD
theorem pL (x:AP [(true,T2)]):OE Tryz.prog (Ad pu jC) (Qq []) 3000 60 256 [(true,T2)] [(true,T2)] x=Ta x:=by kernel_rfl
def jE:List (FuncId×Sg):=(256,⟨[(true,T2)],[(true,T2)],Ta⟩)::jC
theorem jF:TabOK Tryz.prog (Ad pu jE):=R1 jD pL
end Go.Proofs.YtfilfloanndddaaGreat.Pt
