/- The evaluator comes to each of the plain functions. No condition. -/
import Derived.Test.YtfilfloanndddaaGreatPt6
set_option linter.all false
namespace Go.Proofs.YtfilfloanndddaaGreat.Pt
open Go Go.Proofs.YtfilfloanndddaaGreat.Sv Go.Proofs.YtfilfloanndddaaGreat.Pl
set_option maxRecDepth 1000000
set_option linter.unusedVariables false
def nN:List (Nat×Nat×Nat×An):=[(198,1,31,.loop { keep:=[0,1,7,8,6],kb:=[0,1,25,21,26],pl:=[.slot 9 false zJ,.box 2 [.lf zJ,.ow true (.sl true T3) false],.box 3 [.lf zJ]],ex:=[(.exit 0,[(26,0,none)]),(.ret,[(26,2,some .ret)])],pay:=.unit }),(198,4,41,.loop { keep:=[0,1,7,15,11,9,13,4,8,16,12,6,10,14],kb:=[0,1,3,25,21,34,26],pl:=[.slot 5 false zJ,.box 2 [.lf zJ,.ow true (.sl true T3) false]],ex:=[(.exit 2,[(26,0,none)])],pay:=.unit }),(198,4,42,.loop { keep:=[0,1,7,15,11,9,13,4,8,16,12,6,10,14],kb:=[0,1,35,25,21,26],pl:=[.slot 5 false zJ,.box 2 [.lf zJ,.ow true (.sl true T3) false],.box 3 [.lf zJ]],ex:=[(.exit 2,[(26,0,none)]),(.ret,[(26,2,some .ret)])],pay:=.unit })]
theorem pZ (x:AP [(true,T4),zI,(true,T3)]):OE Tryz.prog (Ad pu lL) (Qq nN) 3000 60 140 [(true,T4),zI,(true,T3)] [(true,T4),zI] x=Tu x:=by kernel_rfl
def lN:List (FuncId×Sg):=(140,⟨[(true,T4),zI,(true,T3)],[(true,T4),zI],Tu⟩)::lL
theorem lO:TabOK Tryz.prog (Ad pu lN):=R1 lM pZ
theorem qO (x:AP [(true,T4),zI]):OE Tryz.prog (Ad pu lN) (Qq []) 3000 60 179 [(true,T4),zI] [(true,YQ),zI] x=Wi x:=by kernel_rfl
def lQ:List (FuncId×Sg):=(179,⟨[(true,T4),zI],[(true,YQ),zI],Wi⟩)::lN
theorem lR:TabOK Tryz.prog (Ad pu lQ):=R1 lO qO
def nO:List (Nat×Nat×Nat×An):=[(141,3,10,.loop { keep:=[0,1,3,19,5,9,21,2,4,8,20,10,22],kb:=[0,1,2],pl:=[.slot 23 false zJ,.map 4 zJ true YQ],ex:=[(.exit 0,[])],pay:=.unit }),(141,10,22,.loop { keep:=[0,1,3,23,39,19,35,5,33,13,21,37,2,4,8,32,20,36,10,34,22,38],kb:=[0,1,4],pl:=[.slot 9 false zJ,.slot 40 false zJ,.box 2 [.lf zJ,.ow true (.sl true T3) false,.ow true YQ false,.lf zJ],.box 16 [.lf zJ,.lf (.sl true (.sl true T3)),.ow true YQ false,.lf zJ]],ex:=[(.exit 2,[]),(.ret,[])],pay:=.unit })]
theorem pf (x:AP [(true,WG),(true,T4),zI,zI]):OE Tryz.prog (Ad pu lQ) (Qq nO) 3000 60 141 [(true,WG),(true,T4),zI,zI] [(true,WG),zI] x=Tc x:=by kernel_rfl
def cg:List (FuncId×Sg):=(141,⟨[(true,WG),(true,T4),zI,zI],[(true,WG),zI],Tc⟩)::lQ
theorem eh:TabOK Tryz.prog (Ad pu cg):=R1 lR pf
theorem tM (x:AP [(true,WG),zI]):OE Tryz.prog (Ad pu cg) (Qq []) 3000 60 95 [(true,WG),zI] [(true,WG),zI] x=VC x:=by kernel_rfl
def cj:List (FuncId×Sg):=(95,⟨[(true,WG),zI],[(true,WG),zI],VC⟩)::cg
theorem ei:TabOK Tryz.prog (Ad pu cj):=R1 eh tM
theorem si (x:AP [(true,WG),zI]):OE Tryz.prog (Ad pu cj) (Qq []) 3000 60 42 [(true,WG),zI] [(true,WG),(false,.bool),zI] x=Tj x:=by kernel_rfl
def ck:List (FuncId×Sg):=(42,⟨[(true,WG),zI],[(true,WG),(false,.bool),zI],Tj⟩)::cj
theorem ej:TabOK Tryz.prog (Ad pu ck):=R1 ei si
theorem sq (x:AP [(true,oc)]):OE Tryz.prog (Ad pu ck) (Qq []) 3000 60 47 [(true,oc)] [] x=Uk x:=by kernel_rfl
def cm:List (FuncId×Sg):=(47,⟨[(true,oc)],[],Uk⟩)::ck
theorem eu:TabOK Tryz.prog (Ad pu cm):=R1 ej sq
def oe:List (Nat×Nat×Nat×An):=[(101,0,47,.loop { keep:=[0,1],kb:=[0,1,35,41,13,45,2,36,34,46],pl:=[],ex:=[],pay:=.unit }),(101,0,68,.loop { keep:=[0,1],kb:=[0,1,55,67,13,2,56,66,62],pl:=[.box 46 [.lf zJ,.lf (.sl true (.sl true T3)),.lf (.sl true YQ),.lf zJ,.lf zJ],.box 57 [.lf zJ,.lf zJ,.lf zJ,.lf zJ,.lf zJ,.lf zJ,.lf zJ,.lf zJ,.lf zJ,.lf zJ,.lf zJ,.lf zJ,.lf zJ,.lf zJ,.lf zJ]],ex:=[(.ret,[(67,0,none)]),(.ret,[(67,2,some (.exit 0))])],pay:=.unit })]
theorem sV (x:AP [(true,WG),zI]):OE Tryz.prog (Ad pu cm) (Qq oe) 3000 60 14 [(true,WG),zI] [(true,WG),(true,mY),zI] x=XO x:=by kernel_rfl
def cp:List (FuncId×Sg):=(14,⟨[(true,WG),zI],[(true,WG),(true,mY),zI],XO⟩)::cm
theorem ew:TabOK Tryz.prog (Ad pu cp):=R1 eu sV
def og:List (Nat×Nat×Nat×An):=[(101,0,47,.loop { keep:=[0,1],kb:=[0,35,41,29,45,12,36,34,46],pl:=[],ex:=[],pay:=.unit }),(101,0,68,.loop { keep:=[0,1],kb:=[0,55,67,56,12,66,62],pl:=[.box 45 [.lf zJ,.lf (.sl true (.sl true T3)),.lf (.sl true YQ),.lf zJ,.lf zJ],.box 50 [.ow false zJ false],.box 57 [.lf zJ,.lf zJ,.lf zJ,.lf zJ,.lf zJ,.lf zJ,.lf zJ,.lf zJ,.lf zJ,.lf zJ,.lf zJ,.lf zJ,.lf zJ,.lf zJ,.lf zJ]],ex:=[(.ret,[(67,0,none)]),(.ret,[(67,2,some (.exit 0))])],pay:=.unit })]
theorem sW (x:AP [(true,WG),zI]):OE Tryz.prog (Ad pu cp) (Qq og) 3000 60 17 [(true,WG),zI] [(false,(.sl false zJ)),zI] x=XN x:=by kernel_rfl
def cq:List (FuncId×Sg):=(17,⟨[(true,WG),zI],[(false,(.sl false zJ)),zI],XN⟩)::cp
theorem ez:TabOK Tryz.prog (Ad pu cq):=R1 ew sW
def oh:List (Nat×Nat×Nat×An):=[(101,0,52,.loop { keep:=[0,1],kb:=[0,1,3,11,51,2,50,46],pl:=[],ex:=[],pay:=.unit }),(101,0,61,.loop { keep:=[0,1],kb:=[0,1,55,11,59,60],pl:=[.box 32 [.lf zJ,.lf (.sl true (.sl true T3)),.lf (.sl true YQ),.lf zJ,.lf zJ],.box 2 [.lf zJ],.box 3 [.lf zJ]],ex:=[(.ret,[(60,0,none)]),(.ret,[(60,2,some .ret)])],pay:=.unit })]
theorem sX (x:AP [(true,WG),zI]):OE Tryz.prog (Ad pu cq) (Qq oh) 3000 60 20 [(true,WG),zI] [zI,zI] x=XZ x:=by kernel_rfl
def cr:List (FuncId×Sg):=(20,⟨[(true,WG),zI],[zI,zI],XZ⟩)::cq
theorem e9:TabOK Tryz.prog (Ad pu cr):=R1 ez sX
theorem sU (x:AP []):OE Tryz.prog (Ad pu cr) (Qq []) 3000 60 13 [] [(false,.bool)] x=VJ x:=by kernel_rfl
def cu:List (FuncId×Sg):=(13,⟨[],[(false,.bool)],VJ⟩)::cr
theorem fA:TabOK Tryz.prog (Ad pu cu):=R1 e9 sU
def oi:List (Nat×Nat×Nat×An):=[(25,5,32,.loop { keep:=[0,1,7,15,11,17,13,21,2,4,16,12,20,10,14],kb:=[0,1,12],pl:=[.srow 5 true mY false,.slot 6 false zJ,.slot 22 false zJ],ex:=[(.exit 0,[])],pay:=.unit }),(45,7,30,.loop { keep:=[0,1,7,15,11,19,13,21,2,16,12,20,6,10,18,14,22],kb:=[0,1,12],pl:=[.slot 23 false zJ,.slot 5 false zJ,.cn 4 .p],ex:=[(.ret,[]),(.exit 0,[])],pay:=.unit }),(101,0,57,.loop { keep:=[0,1],kb:=[0,1,55,51,45,32,56,12,44,46],pl:=[],ex:=[],pay:=.unit }),(25,5,35,.loop { keep:=[0,1,7,15,11,17,13,21,2,4,16,12,20,10,14],kb:=[0,1,12],pl:=[.srow 5 true mY false,.slot 6 false zJ,.slot 22 false zJ],ex:=[(.exit 0,[])],pay:=.unit }),(25,5,40,.loop { keep:=[0,1,7,15,11,17,13,21,2,4,16,12,20,10,14],kb:=[0,12],pl:=[.srow 5 true mY false,.slot 6 false zJ,.slot 22 false zJ,.box 32 [.lf zJ,.lf (.sl true (.sl true T3)),.lf (.sl true YQ),.lf zJ,.lf zJ],.box 1 [.lf zJ,.ow true (.sl true T3) false,.ow true YQ false,.lf zJ]],ex:=[(.exit 0,[]),(.ret,[])],pay:=.unit }),(101,0,60,.loop { keep:=[0,1],kb:=[0,1,47,35,59,49,48,12,58,54],pl:=[],ex:=[],pay:=.unit }),(101,0,65,.loop { keep:=[0,1],kb:=[0,1,63,59,53,64,40,12,52],pl:=[.box 32 [.lf zJ,.lf (.sl true (.sl true T3)),.lf (.sl true YQ),.lf zJ,.lf zJ],.box 54 [.lf zJ,.lf zJ,.lf zJ,.lf zJ,.lf zJ,.lf zJ,.lf zJ,.lf zJ,.lf zJ,.lf zJ,.lf zJ,.lf zJ,.lf zJ,.lf zJ,.lf zJ]],ex:=[(.ret,[(64,0,none)])],pay:=.unit }),(101,0,67,.loop { keep:=[0,1],kb:=[0,1,55,65,41,61,40,12,66,42,54],pl:=[.box 32 [.lf zJ,.lf (.sl true (.sl true T3)),.lf (.sl true YQ),.lf zJ,.lf zJ],.box 56 [.lf zJ,.lf zJ,.lf zJ,.lf zJ,.lf zJ,.lf zJ,.lf zJ,.lf zJ,.lf zJ,.lf zJ,.lf zJ,.lf zJ,.lf zJ,.lf zJ,.lf zJ]],ex:=[(.ret,[(66,0,none)]),(.ret,[(66,2,some (.exit 0))])],pay:=.unit })]
theorem sY (x:AP [(true,WG),(false,(.sl false zJ))]):OE Tryz.prog (Ad pu cu) (Qq oi) 3000 60 25 [(true,WG),(false,(.sl false zJ))] [(true,WG),(false,(.sl true mY)),zI] x=VA x:=by kernel_rfl
def cv:List (FuncId×Sg):=(25,⟨[(true,WG),(false,(.sl false zJ))],[(true,WG),(false,(.sl true mY)),zI],VA⟩)::cu
theorem fB:TabOK Tryz.prog (Ad pu cv):=R1 fA sY
def o0:List (Nat×Nat×Nat×An):=[(63,2,3,.loop { keep:=[0,1,3,4],kb:=[0],pl:=[.slot 5 false zJ],ex:=[(.exit 0,[])],pay:=.unit })]
theorem sv (x:AP [(false,(.sl true T2)),(true,T2)]):OE Tryz.prog (Ad pu cv) (Qq o0) 3000 60 63 [(false,(.sl true T2)),(true,T2)] [(false,(.sl true T2))] x=Wc x:=by kernel_rfl
def cw:List (FuncId×Sg):=(63,⟨[(false,(.sl true T2)),(true,T2)],[(false,(.sl true T2))],Wc⟩)::cv
theorem fC:TabOK Tryz.prog (Ad pu cw):=R1 fB sv
def oq:List (Nat×Nat×Nat×An):=[(27,4,11,.loop { keep:=[0,1,3,11,13,2,4,12,10,14],kb:=[0],pl:=[.slot 5 false (.sl true T2),.slot 6 false zJ],ex:=[(.exit 0,[])],pay:=.unit }),(27,7,17,.loop { keep:=[0,1,3,15,11,17,13,2,4,16,12,6,10,18,14],kb:=[0,11],pl:=[.slot 7 false zJ,.slot 5 false (.sl true T2)],ex:=[(.exit 2,[])],pay:=.unit,relS:=[5] }),(27,12,14,.loop { keep:=[0,1,3,11,5,13,2,4,12,6,10,14],kb:=[0,11],pl:=[.slot 9 false zJ,.srow 8 true T2 false],ex:=[],pay:=.unit }),(27,7,16,.loop { keep:=[0,1,3,15,11,17,13,2,4,16,12,6,10,18,14],kb:=[0],pl:=[.slot 7 false zJ,.slot 5 false (.sl true T2)],ex:=[(.exit 2,[])],pay:=.unit }),(27,12,13,.loop { keep:=[0,1,3,11,5,13,2,4,12,6,10,14],kb:=[0],pl:=[.slot 9 false zJ,.srow 8 true T2 false],ex:=[(.exit 4,[])],pay:=.unit })]
theorem sc (x:AP [(true,T4)]):OE Tryz.prog (Ad pu cw) (Qq oq) 3000 60 27 [(true,T4)] [(false,(.sl true T2))] x=VH x:=by kernel_rfl
def cx:List (FuncId×Sg):=(27,⟨[(true,T4)],[(false,(.sl true T2))],VH⟩)::cw
theorem fD:TabOK Tryz.prog (Ad pu cx):=R1 fC sc
def om:List (Nat×Nat×Nat×An):=[(26,4,7,.loop { keep:=[0,1,7,9,8,6,10],kb:=[],pl:=[.slot 5 false zJ,.slot 4 false .bool],ex:=[(.ret,[]),(.exit 0,[])],pay:=.unit })]
theorem sZ (x:AP [(false,(.sl true T2)),(false,(.sl true T2))]):OE Tryz.prog (Ad pu cx) (Qq om) 3000 60 26 [(false,(.sl true T2)),(false,(.sl true T2))] [(false,.bool)] x=Wl x:=by kernel_rfl
def cy:List (FuncId×Sg):=(26,⟨[(false,(.sl true T2)),(false,(.sl true T2))],[(false,.bool)],Wl⟩)::cx
theorem fE:TabOK Tryz.prog (Ad pu cy):=R1 fD sZ
end Go.Proofs.YtfilfloanndddaaGreat.Pt
