/- The evaluator comes to each of the plain functions. No condition. -/
import Derived.Test.YtfilfloanndddaaGreatPt7
set_option linter.all false
namespace Go.Proofs.YtfilfloanndddaaGreat.Pt
open Go Go.Proofs.YtfilfloanndddaaGreat.Sv Go.Proofs.YtfilfloanndddaaGreat.Pl
set_option maxRecDepth 1000000
set_option linter.unusedVariables false
def o8:List (Nat×Nat×Nat×An):=[(114,3,4,.loop { keep:=[0,1,2],kb:=[0],pl:=[.slot 3 false zJ,.slot 4 false zJ],ex:=[(.exit 0,[])],pay:=.unit })]
theorem si (x:AH [(true,I6)]):Ac Tryz.prog (AC pu XC) (AK o8) 3000 60 114 [(true,I6)] [zI] x=EV x:=by kernel_rfl
def XD:List (FuncId×Sg):=(114,⟨[(true,I6)],[zI],EV⟩)::XC
theorem ad:TabOK Tryz.prog (AC pu XD):=AF ac si
def o9:List (Nat×Nat×Nat×An):=[(116,7,18,.loop { keep:=[0,15,11,19,5,17,13,16,12,20,6,14],kb:=[],pl:=[.srow 3 false zJ false,.srow 7 true T2 false,.srow 2 true T2 false,.slot 4 false zJ,.srow 8 false zJ false,.srow 9 false zJ true],ex:=[(.ret,[])],pay:=.unit,plx:=[.srow 3 false zJ false,.srow 2 true T2 false,.slot 4 false zJ] })]
theorem sj (x:AH [(false,(.sl false (.sl true T2)))]):Ac Tryz.prog (AC pu XD) (AK o9) 3000 60 116 [(false,(.sl false (.sl true T2)))] [(false,(.sl true T2)),(false,(.sl false zJ)),zI] x=FG x:=by kernel_rfl
def XE:List (FuncId×Sg):=(116,⟨[(false,(.sl false (.sl true T2)))],[(false,(.sl true T2)),(false,(.sl false zJ)),zI],FG⟩)::XD
theorem ae:TabOK Tryz.prog (AC pu XE):=AF ad sj
theorem sq (x:AH [(true,Qk)]):Ac Tryz.prog (AC pu XE) (AK []) 3000 60 204 [(true,Qk)] [zI] x=Fv x:=by kernel_rfl
def XF:List (FuncId×Sg):=(204,⟨[(true,Qk)],[zI],Fv⟩)::XE
theorem af:TabOK Tryz.prog (AC pu XF):=AF ae sq
theorem ss (x:AH [(true,Qk),(true,T2)]):Ac Tryz.prog (AC pu XF) (AK []) 3000 60 187 [(true,Qk),(true,T2)] [(false,.bool),(true,Qk),zI] x=Gu x:=by kernel_rfl
def XG:List (FuncId×Sg):=(187,⟨[(true,Qk),(true,T2)],[(false,.bool),(true,Qk),zI],Gu⟩)::XF
theorem ah:TabOK Tryz.prog (AC pu XG):=AF af ss
def pA:List (Nat×Nat×Nat×An):=[(158,6,12,.loop { keep:=[0,1,7,15,17,13,16,14],kb:=[],pl:=[.slot 5 false zJ,.slot 9 false zJ,.srow 4 true T2 false,.srow 8 true T2 false,.slot 6 false zJ,.box 8 [.lf .bool,.lf .str,.lf .bool]],ex:=[(.ret,[]),(.exit 0,[])],pay:=.unit })]
theorem su (x:AH [(false,(.sl true T2)),(false,.bool)]):Ac Tryz.prog (AC pu XG) (AK pA) 3000 60 158 [(false,(.sl true T2)),(false,.bool)] [(false,(.sl true T2)),zI,zI] x=FH x:=by kernel_rfl
def XH:List (FuncId×Sg):=(158,⟨[(false,(.sl true T2)),(false,.bool)],[(false,(.sl true T2)),zI,zI],FH⟩)::XG
theorem ai:TabOK Tryz.prog (AC pu XH):=AF ah su
theorem sv (x:AH [(false,(.sl true T2)),(false,.bool)]):Ac Tryz.prog (AC pu XH) (AK []) 3000 60 117 [(false,(.sl true T2)),(false,.bool)] [(false,(.sl true T2)),(true,Qk)] x=DO x:=by kernel_rfl
def XI:List (FuncId×Sg):=(117,⟨[(false,(.sl true T2)),(false,.bool)],[(false,(.sl true T2)),(true,Qk)],DO⟩)::XH
theorem aj:TabOK Tryz.prog (AC pu XI):=AF ai sv
def pB:List (Nat×Nat×Nat×An):=[(119,4,7,.loop { keep:=[0,1,7,9,8,6,10],kb:=[],pl:=[.slot 5 false zJ,.slot 4 false .bool],ex:=[(.ret,[]),(.exit 0,[])],pay:=.unit })]
theorem sx (x:AH [(false,(.sl true T2)),(false,(.sl true T2))]):Ac Tryz.prog (AC pu XI) (AK pB) 3000 60 119 [(false,(.sl true T2)),(false,(.sl true T2))] [(false,.bool)] x=B6 x:=by kernel_rfl
def XJ:List (FuncId×Sg):=(119,⟨[(false,(.sl true T2)),(false,(.sl true T2))],[(false,.bool)],B6⟩)::XI
theorem ak:TabOK Tryz.prog (AC pu XJ):=AF aj sx
theorem sy (x:AH [(true,I6)]):Ac Tryz.prog (AC pu XJ) (AK []) 3000 60 112 [(true,I6)] [zI] x=Fw x:=by kernel_rfl
def XK:List (FuncId×Sg):=(112,⟨[(true,I6)],[zI],Fw⟩)::XJ
theorem al:TabOK Tryz.prog (AC pu XK):=AF ak sy
def pC:List (Nat×Nat×Nat×An):=[(113,6,14,.loop { keep:=[0,1,3,11,5,9,13,2,4,8,12,10,14],kb:=[0],pl:=[.slot 7 false zJ,.slot 6 false zJ],ex:=[(.exit 0,[])],pay:=.unit })]
theorem tA (x:AH [(true,T9)]):Ac Tryz.prog (AC pu XK) (AK pC) 3000 60 113 [(true,T9)] [zI,zI] x=Gv x:=by kernel_rfl
def XL:List (FuncId×Sg):=(113,⟨[(true,T9)],[zI,zI],Gv⟩)::XK
theorem am:TabOK Tryz.prog (AC pu XL):=AF al tA
theorem ui (x:AH [(true,I6)]):Ac Tryz.prog (AC pu XL) (AK []) 3000 60 69 [(true,I6)] [zI,zI] x=BN x:=by kernel_rfl
def XM:List (FuncId×Sg):=(69,⟨[(true,I6)],[zI,zI],BN⟩)::XL
theorem an:TabOK Tryz.prog (AC pu XM):=AF am ui
theorem tB (x:AH [(true,T9)]):Ac Tryz.prog (AC pu XM) (AK []) 3000 60 115 [(true,T9)] [(true,T2),zI,(true,T9),zI] x=EW x:=by kernel_rfl
def XN:List (FuncId×Sg):=(115,⟨[(true,T9)],[(true,T2),zI,(true,T9),zI],EW⟩)::XM
theorem ao:TabOK Tryz.prog (AC pu XN):=AF an tB
def tC:List (Nat×Nat×Nat×An):=[(70,11,32,.loop { keep:=[0,1,7,15,31,23,39,19,35,27,5,9,17,33,25,21,37,2,4,8,16,32,24,20,36,6,10,18,34,26,22,30],kb:=[0,1],pl:=[.slot 11 false zJ,.box 29 [.lf (.sl false (.sl true T2)),.lf (.sl false zJ),.lf (.sl true T5),.lf (.sl false zJ),.lf zJ,.lf .bool,.lf .str,.lf .bool,.lf (.sl true T2),.lf zJ]],ex:=[(.exit 0,[])],pay:=.unit })]
theorem uj (x:AH [(true,I6),zI]):Ac Tryz.prog (AC pu XN) (AK tC) 3000 60 70 [(true,I6),zI] [(true,I6),zI,zI] x=BE x:=by kernel_rfl
def XO:List (FuncId×Sg):=(70,⟨[(true,I6),zI],[(true,I6),zI,zI],BE⟩)::XN
theorem ap:TabOK Tryz.prog (AC pu XO):=AF ao uj
def pD:List (Nat×Nat×Nat×An):=[(118,4,27,.loop { keep:=[0,1,3,7,15,23,11,19,27,9,17,25,13,21,2,8,16,24,12,20,28,6,10,18,26,14,22],kb:=[0,1],pl:=[.slot 5 false zJ,.slot 4 false .bool],ex:=[(.ret,[]),(.exit 0,[])],pay:=.unit })]
theorem tD (x:AH [(true,T9),(true,T9)]):Ac Tryz.prog (AC pu XO) (AK pD) 3000 60 118 [(true,T9),(true,T9)] [(false,.bool)] x=Gw x:=by kernel_rfl
def XP:List (FuncId×Sg):=(118,⟨[(true,T9),(true,T9)],[(false,.bool)],Gw⟩)::XO
theorem aq:TabOK Tryz.prog (AC pu XP):=AF ap tD
theorem uk (x:AH [(true,I6),(true,I6)]):Ac Tryz.prog (AC pu XP) (AK []) 3000 60 71 [(true,I6),(true,I6)] [(false,.bool)] x=Ba x:=by kernel_rfl
def XQ:List (FuncId×Sg):=(71,⟨[(true,I6),(true,I6)],[(false,.bool)],Ba⟩)::XP
theorem au:TabOK Tryz.prog (AC pu XQ):=AF aq uk
end Go.Proofs.YtfilfloanndddaaGreat.Pt
