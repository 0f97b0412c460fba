/- The evaluator comes to each of the plain functions. No condition. -/
import Derived.Test.YtfilfloanndddaaGreatPt4
set_option linter.all false
namespace Go.Proofs.YtfilfloanndddaaGreat.Pt
open Go Go.Proofs.YtfilfloanndddaaGreat.Sv Go.Proofs.YtfilfloanndddaaGreat.Pl
set_option maxRecDepth 1000000
set_option linter.unusedVariables false
def od:List (Nat×Nat×Nat×An):=[(213,5,24,.loop { keep:=[0,1,15,19,17,2,8,16,20,18,14],kb:=[],pl:=[.slot 7 false zJ,.slot 21 false zJ,.slot 6 false zJ,.box 19 [.lf .bool,.lf .str,.lf .bool],.box 0 [.ow true T2 false]],ex:=[(.ret,[]),(.exit 0,[])],pay:=.unit })]
theorem rZ (x:AH [(false,(.sl true T2)),(false,.bool)]):Ac Tryz.prog (AC pu iQ) (AK od) 3000 60 193 [(false,(.sl true T2)),(false,.bool)] [(false,(.sl true T2)),zI,zI] x=Eg x:=by kernel_rfl
def iS:List (FuncId×Sg):=(193,⟨[(false,(.sl true T2)),(false,.bool)],[(false,(.sl true T2)),zI,zI],Eg⟩)::iQ
theorem iT:TabOK Tryz.prog (AC pu iS):=AF iR rZ
def oe:List (Nat×Nat×Nat×An):=[(195,4,9,.loop { keep:=[0,1,7,11,9,13,8,12,10],kb:=[],pl:=[.slot 4 false .bool,.slot 14 false zJ],ex:=[(.ret,[]),(.exit 0,[])],pay:=.unit })]
theorem ra (x:AH [(false,(.sl true T2)),(false,(.sl true T2))]):Ac Tryz.prog (AC pu iS) (AK oe) 3000 60 195 [(false,(.sl true T2)),(false,(.sl true T2))] [(false,.bool)] x=D8 x:=by kernel_rfl
def iU:List (FuncId×Sg):=(195,⟨[(false,(.sl true T2)),(false,(.sl true T2))],[(false,.bool)],D8⟩)::iS
theorem iV:TabOK Tryz.prog (AC pu iU):=AF iT ra
def og:List (Nat×Nat×Nat×An):=[(169,6,18,.loop { keep:=[0,1,3,15,23,19,17,25,21,2,4,16,24,20,18,26,14],kb:=[0],pl:=[.slot 27 false zJ,.slot 5 false zJ],ex:=[(.exit 0,[])],pay:=.unit })]
theorem rf (x:AH [(true,I6)]):Ac Tryz.prog (AC pu iU) (AK og) 3000 60 169 [(true,I6)] [zI] x=FC x:=by kernel_rfl
def iW:List (FuncId×Sg):=(169,⟨[(true,I6)],[zI],FC⟩)::iU
theorem iX:TabOK Tryz.prog (AC pu iW):=AF iV rf
def oh:List (Nat×Nat×Nat×An):=[(170,6,17,.loop { keep:=[0,1,3,15,11,19,5,9,17,13,2,4,12,10,18,14],kb:=[0],pl:=[.slot 20 false zJ,.slot 6 false zJ],ex:=[(.exit 0,[])],pay:=.unit })]
theorem ri (x:AH [(true,T9)]):Ac Tryz.prog (AC pu iW) (AK oh) 3000 60 170 [(true,T9)] [zI,zI] x=Gq x:=by kernel_rfl
def iY:List (FuncId×Sg):=(170,⟨[(true,T9)],[zI,zI],Gq⟩)::iW
theorem iZ:TabOK Tryz.prog (AC pu iY):=AF iX ri
theorem rm (x:AH [(true,I6)]):Ac Tryz.prog (AC pu iY) (AK []) 3000 60 134 [(true,I6)] [zI,zI] x=Bp x:=by kernel_rfl
def ib:List (FuncId×Sg):=(134,⟨[(true,I6)],[zI,zI],Bp⟩)::iY
theorem ic:TabOK Tryz.prog (AC pu ib):=AF iZ rm
theorem rn (x:AH [(true,T9)]):Ac Tryz.prog (AC pu ib) (AK []) 3000 60 196 [(true,T9)] [(true,T2),zI,(true,T9),zI] x=CF x:=by kernel_rfl
def ie:List (FuncId×Sg):=(196,⟨[(true,T9)],[(true,T2),zI,(true,T9),zI],CF⟩)::ib
theorem ig:TabOK Tryz.prog (AC pu ie):=AF ic rn
theorem rp (x:AH [(true,Qk),(true,T2)]):Ac Tryz.prog (AC pu ie) (AK []) 3000 60 197 [(true,Qk),(true,T2)] [(false,.bool),(true,Qk),zI] x=CO x:=by kernel_rfl
def ii:List (FuncId×Sg):=(197,⟨[(true,Qk),(true,T2)],[(false,.bool),(true,Qk),zI],CO⟩)::ie
theorem ij:TabOK Tryz.prog (AC pu ii):=AF ig rp
def oi:List (Nat×Nat×Nat×An):=[(172,2,81,.loop { keep:=[0,1,6],kb:=[0,1,39,67,68],pl:=[.slot 7 false zJ,.slot 4 false zJ,.box 28 [.lf (.sl false (.sl true T2)),.lf (.sl false zJ),.lf (.sl true T5),.lf (.sl false zJ),.lf zJ,.lf .bool,.lf .str,.lf .bool,.ow true T2 false,.lf zJ]],ex:=[(.ret,[]),(.exit 0,[])],pay:=.unit }),(172,2,98,.loop { keep:=[0,1,6],kb:=[0,1,39,67,68,86],pl:=[.slot 7 false zJ,.slot 4 false zJ,.box 28 [.lf (.sl false (.sl true T2)),.lf (.sl false zJ),.lf (.sl true T5),.lf (.sl false zJ),.lf zJ,.lf .bool,.lf .str,.lf .bool,.ow true T2 false,.lf zJ]],ex:=[(.ret,[]),(.exit 0,[])],pay:=.unit }),(172,2,133,.loop { keep:=[0,1,6],kb:=[0,1,39,67,68,86],pl:=[.slot 7 false zJ,.slot 4 false zJ,.box 28 [.lf (.sl false (.sl true T2)),.lf (.sl false zJ),.lf (.sl true T5),.lf (.sl false zJ),.lf zJ,.lf .bool,.lf .str,.lf .bool,.ow true T2 false,.lf zJ]],ex:=[(.ret,[]),(.exit 0,[])],pay:=.unit }),(172,2,120,.loop { keep:=[0,1,6],kb:=[0,1,39,67,68,86],pl:=[.slot 7 false zJ,.slot 4 false zJ,.box 28 [.lf (.sl false (.sl true T2)),.lf (.sl false zJ),.lf (.sl true T5),.lf (.sl false zJ),.lf zJ,.lf .bool,.lf .str,.lf .bool,.ow true T2 false,.lf zJ]],ex:=[(.ret,[]),(.exit 0,[])],pay:=.unit })]
theorem rq (x:AH [(true,I6),zI]):Ac Tryz.prog (AC pu ii) (AK oi) 3000 60 137 [(true,I6),zI] [(true,I6),zI,zI] x=CC x:=by kernel_rfl
def ik:List (FuncId×Sg):=(137,⟨[(true,I6),zI],[(true,I6),zI,zI],CC⟩)::ii
theorem il:TabOK Tryz.prog (AC pu ik):=AF ij rq
def om:List (Nat×Nat×Nat×An):=[(200,4,9,.loop { keep:=[0,1,7,11,9,8,12,6,10],kb:=[],pl:=[.slot 13 false zJ,.slot 4 false .bool],ex:=[(.ret,[]),(.exit 0,[])],pay:=.unit })]
theorem rt (x:AH [(false,(.sl true T2)),(false,(.sl true T2))]):Ac Tryz.prog (AC pu ik) (AK om) 3000 60 200 [(false,(.sl true T2)),(false,(.sl true T2))] [(false,.bool)] x=Bd x:=by kernel_rfl
def im:List (FuncId×Sg):=(200,⟨[(false,(.sl true T2)),(false,(.sl true T2))],[(false,.bool)],Bd⟩)::ik
theorem io:TabOK Tryz.prog (AC pu im):=AF il rt
theorem ru (x:AH [(false,(.sl true T2)),(false,(.sl true T2))]):Ac Tryz.prog (AC pu im) (AK []) 3000 60 182 [(false,(.sl true T2)),(false,(.sl true T2))] [(false,.bool)] x=Bw x:=by kernel_rfl
def ip:List (FuncId×Sg):=(182,⟨[(false,(.sl true T2)),(false,(.sl true T2))],[(false,.bool)],Bw⟩)::im
theorem iq:TabOK Tryz.prog (AC pu ip):=AF io ru
def oq:List (Nat×Nat×Nat×An):=[(181,4,81,.loop { keep:=[0,1,15,11,13,2,16,12,10,14],kb:=[0,1,7,8],pl:=[.slot 17 false zJ,.slot 6 false .bool],ex:=[(.ret,[]),(.exit 0,[])],pay:=.unit })]
theorem rx (x:AH [(true,I6),(true,I6)]):Ac Tryz.prog (AC pu ip) (AK oq) 3000 60 146 [(true,I6),(true,I6)] [(false,.bool)] x=Dj x:=by kernel_rfl
def ir:List (FuncId×Sg):=(146,⟨[(true,I6),(true,I6)],[(false,.bool)],Dj⟩)::ip
theorem iu:TabOK Tryz.prog (AC pu ir):=AF iq rx
def ry:List (Nat×Nat×Nat×An):=[(168,1,52,.loop { keep:=[0,1,7,5,6],kb:=[0,47,35,46],pl:=[.slot 8 false zJ,.box 43 [.ow false zJ false]],ex:=[(.exit 0,[(47,0,none)])],pay:=.unit }),(97,10,59,.loop { keep:=[0,1,15,31,47,23,39,19,35,27,43,17,33,25,41,21,37,29,45,4,16,32,40,20,36,28,44,18,34,26,42,14,22,38,30,46],kb:=[0,47,35,43,52],pl:=[.slot 3 false zJ,.slot 2 false zJ,.slot 48 false zJ],ex:=[(.ret,[(47,3,none)]),(.exit 1,[(47,3,none)])],pay:=.unit })]
theorem uS (x:AH [(true,CG)]):Ac Tryz.prog (AC pu ir) (AK ry) 3000 60 97 [(true,CG)] [zI,zI] x=CT x:=by kernel_rfl
def iv:List (FuncId×Sg):=(97,⟨[(true,CG)],[zI,zI],CT⟩)::ir
theorem iw:TabOK Tryz.prog (AC pu iv):=AF iu uS
def sB:List (Nat×Nat×Nat×An):=[(168,1,35,.loop { keep:=[0,1,7,5,6],kb:=[0,29,18,30],pl:=[.slot 8 false zJ,.box 26 [.ow false zJ false]],ex:=[(.exit 0,[(30,0,none)])],pay:=.unit })]
theorem uT (x:AH [(true,CG)]):Ac Tryz.prog (AC pu iv) (AK sB) 3000 60 90 [(true,CG)] [(false,(.sl false zJ)),zI] x=FJ x:=by kernel_rfl
def iy:List (FuncId×Sg):=(90,⟨[(true,CG)],[(false,(.sl false zJ)),zI],FJ⟩)::iv
theorem i0:TabOK Tryz.prog (AC pu iy):=AF iw uT
def sC:List (Nat×Nat×Nat×An):=[(148,2,31,.loop { keep:=[0,1,7,6],kb:=[0,1],pl:=[.slot 4 false zJ,.slot 8 false zJ],ex:=[(.ret,[]),(.exit 0,[])],pay:=.unit })]
theorem uU (x:AH [(true,CG),zI]):Ac Tryz.prog (AC pu iy) (AK sC) 3000 60 53 [(true,CG),zI] [zI,zI] x=EL x:=by kernel_rfl
def i4:List (FuncId×Sg):=(53,⟨[(true,CG),zI],[zI,zI],EL⟩)::iy
theorem i5:TabOK Tryz.prog (AC pu i4):=AF i0 uU
end Go.Proofs.YtfilfloanndddaaGreat.Pt
