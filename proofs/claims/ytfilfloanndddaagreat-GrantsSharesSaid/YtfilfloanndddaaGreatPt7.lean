/- The evaluator comes to each of the plain functions. No condition. -/
import Derived.Test.YtfilfloanndddaaGreatPt6
set_option linter.all false
namespace Go.Proofs.YtfilfloanndddaaGreat.Pt
open Go Go.Proofs.YtfilfloanndddaaGreat.Sv Go.Proofs.YtfilfloanndddaaGreat.Pl
set_option maxRecDepth 1000000
set_option linter.unusedVariables false
def ou:List (Nat×Nat×Nat×An):=[(198,1,31,.loop { keep:=[0,1,7,8,6],kb:=[0,1,25,21,26],pl:=[.slot 9 false zJ,.box 2 [.lf zJ,.ow true (.sl true T3) false],.box 3 [.lf zJ]],ex:=[(.exit 0,[(26,0,none)]),(.ret,[(26,2,some .ret)])],pay:=.unit }),(198,4,41,.loop { keep:=[0,1,7,15,11,9,13,4,8,16,12,6,10,14],kb:=[0,1,3,25,21,34,26],pl:=[.slot 5 false zJ,.box 2 [.lf zJ,.ow true (.sl true T3) false]],ex:=[(.exit 2,[(26,0,none)])],pay:=.unit }),(198,4,42,.loop { keep:=[0,1,7,15,11,9,13,4,8,16,12,6,10,14],kb:=[0,1,35,25,21,26],pl:=[.slot 5 false zJ,.box 2 [.lf zJ,.ow true (.sl true T3) false],.box 3 [.lf zJ]],ex:=[(.exit 2,[(26,0,none)]),(.ret,[(26,2,some .ret)])],pay:=.unit })]
theorem sT (x:AH [(true,T4),zI,(true,T3)]):Ac Tryz.prog (AC pu jW) (AK ou) 3000 60 140 [(true,T4),zI,(true,T3)] [(true,T4),zI] x=Bb x:=by kernel_rfl
def jY:List (FuncId×Sg):=(140,⟨[(true,T4),zI,(true,T3)],[(true,T4),zI],Bb⟩)::jW
theorem jZ:TabOK Tryz.prog (AC pu jY):=AF jX sT
theorem sU (x:AH [(true,T4),zI]):Ac Tryz.prog (AC pu jY) (AK []) 3000 60 179 [(true,T4),zI] [(true,Iu),zI] x=Gx x:=by kernel_rfl
def ja:List (FuncId×Sg):=(179,⟨[(true,T4),zI],[(true,Iu),zI],Gx⟩)::jY
theorem jc:TabOK Tryz.prog (AC pu ja):=AF jZ sU
def ov:List (Nat×Nat×Nat×An):=[(141,3,10,.loop { keep:=[0,1,3,19,5,9,21,2,4,8,20,10,22],kb:=[0,1,2],pl:=[.slot 23 false zJ,.map 4 zJ true Iu],ex:=[(.exit 0,[])],pay:=.unit }),(141,10,22,.loop { keep:=[0,1,3,23,39,19,35,5,33,13,21,37,2,4,8,32,20,36,10,34,22,38],kb:=[0,1,4],pl:=[.slot 9 false zJ,.slot 40 false zJ,.box 2 [.lf zJ,.ow true (.sl true T3) false,.ow true Iu false,.lf zJ],.box 16 [.lf zJ,.lf (.sl true (.sl true T3)),.ow true Iu false,.lf zJ]],ex:=[(.exit 2,[]),(.ret,[])],pay:=.unit })]
theorem sV (x:AH [(true,CG),(true,T4),zI,zI]):Ac Tryz.prog (AC pu ja) (AK ov) 3000 60 141 [(true,CG),(true,T4),zI,zI] [(true,CG),zI] x=BK x:=by kernel_rfl
def W0:List (FuncId×Sg):=(141,⟨[(true,CG),(true,T4),zI,zI],[(true,CG),zI],BK⟩)::ja
theorem aR:TabOK Tryz.prog (AC pu W0):=AF jc sV
theorem ub (x:AH [(true,CG),zI]):Ac Tryz.prog (AC pu W0) (AK []) 3000 60 95 [(true,CG),zI] [(true,CG),zI] x=Dl x:=by kernel_rfl
def W1:List (FuncId×Sg):=(95,⟨[(true,CG),zI],[(true,CG),zI],Dl⟩)::W0
theorem aS:TabOK Tryz.prog (AC pu W1):=AF aR ub
theorem uc (x:AH [(true,CG),zI]):Ac Tryz.prog (AC pu W1) (AK []) 3000 60 42 [(true,CG),zI] [(true,CG),(false,.bool),zI] x=BV x:=by kernel_rfl
def W2:List (FuncId×Sg):=(42,⟨[(true,CG),zI],[(true,CG),(false,.bool),zI],BV⟩)::W1
theorem aT:TabOK Tryz.prog (AC pu W2):=AF aS uc
theorem ud (x:AH [(true,px)]):Ac Tryz.prog (AC pu W2) (AK []) 3000 60 47 [(true,px)] [] x=G8 x:=by kernel_rfl
def W3:List (FuncId×Sg):=(47,⟨[(true,px)],[],G8⟩)::W2
theorem aU:TabOK Tryz.prog (AC pu W3):=AF aT ud
def sW:List (Nat×Nat×Nat×An):=[(101,0,47,.loop { keep:=[0,1],kb:=[0,1,35,41,13,45,2,36,34,46],pl:=[],ex:=[],pay:=.unit }),(101,0,68,.loop { keep:=[0,1],kb:=[0,1,55,67,13,2,56,66,62],pl:=[.box 46 [.lf zJ,.lf (.sl true (.sl true T3)),.lf (.sl true Iu),.lf zJ,.lf zJ],.box 57 [.lf zJ,.lf zJ,.lf zJ,.lf zJ,.lf zJ,.lf zJ,.lf zJ,.lf zJ,.lf zJ,.lf zJ,.lf zJ,.lf zJ,.lf zJ,.lf zJ,.lf zJ]],ex:=[(.ret,[(67,0,none)]),(.ret,[(67,2,some (.exit 0))])],pay:=.unit })]
theorem ue (x:AH [(true,CG),zI]):Ac Tryz.prog (AC pu W3) (AK sW) 3000 60 14 [(true,CG),zI] [(true,CG),(true,nM),zI] x=EE x:=by kernel_rfl
def W4:List (FuncId×Sg):=(14,⟨[(true,CG),zI],[(true,CG),(true,nM),zI],EE⟩)::W3
theorem aV:TabOK Tryz.prog (AC pu W4):=AF aU ue
def sX:List (Nat×Nat×Nat×An):=[(101,0,47,.loop { keep:=[0,1],kb:=[0,35,41,29,45,12,36,34,46],pl:=[],ex:=[],pay:=.unit }),(101,0,68,.loop { keep:=[0,1],kb:=[0,55,67,56,12,66,62],pl:=[.box 45 [.lf zJ,.lf (.sl true (.sl true T3)),.lf (.sl true Iu),.lf zJ,.lf zJ],.box 50 [.ow false zJ false],.box 57 [.lf zJ,.lf zJ,.lf zJ,.lf zJ,.lf zJ,.lf zJ,.lf zJ,.lf zJ,.lf zJ,.lf zJ,.lf zJ,.lf zJ,.lf zJ,.lf zJ,.lf zJ]],ex:=[(.ret,[(67,0,none)]),(.ret,[(67,2,some (.exit 0))])],pay:=.unit })]
theorem uf (x:AH [(true,CG),zI]):Ac Tryz.prog (AC pu W4) (AK sX) 3000 60 17 [(true,CG),zI] [(false,(.sl false zJ)),zI] x=EF x:=by kernel_rfl
def W5:List (FuncId×Sg):=(17,⟨[(true,CG),zI],[(false,(.sl false zJ)),zI],EF⟩)::W4
theorem aW:TabOK Tryz.prog (AC pu W5):=AF aV uf
def sY:List (Nat×Nat×Nat×An):=[(101,0,52,.loop { keep:=[0,1],kb:=[0,1,3,11,51,2,50,46],pl:=[],ex:=[],pay:=.unit }),(101,0,61,.loop { keep:=[0,1],kb:=[0,1,55,11,59,60],pl:=[.box 32 [.lf zJ,.lf (.sl true (.sl true T3)),.lf (.sl true Iu),.lf zJ,.lf zJ],.box 2 [.lf zJ],.box 3 [.lf zJ]],ex:=[(.ret,[(60,0,none)]),(.ret,[(60,2,some .ret)])],pay:=.unit })]
theorem ug (x:AH [(true,CG),zI]):Ac Tryz.prog (AC pu W5) (AK sY) 3000 60 20 [(true,CG),zI] [zI,zI] x=I4 x:=by kernel_rfl
def W6:List (FuncId×Sg):=(20,⟨[(true,CG),zI],[zI,zI],I4⟩)::W5
theorem aX:TabOK Tryz.prog (AC pu W6):=AF aW ug
theorem uh (x:AH []):Ac Tryz.prog (AC pu W6) (AK []) 3000 60 13 [] [(false,.bool)] x=F3 x:=by kernel_rfl
def W7:List (FuncId×Sg):=(13,⟨[],[(false,.bool)],F3⟩)::W6
theorem aY:TabOK Tryz.prog (AC pu W7):=AF aX uh
def oz:List (Nat×Nat×Nat×An):=[(159,4,7,.loop { keep:=[0,1,7,9,8,6,10],kb:=[],pl:=[.slot 5 false zJ,.slot 4 false .bool],ex:=[(.ret,[]),(.exit 0,[])],pay:=.unit })]
theorem sZ (x:AH [(false,(.sl false zJ)),(false,(.sl false zJ))]):Ac Tryz.prog (AC pu W7) (AK oz) 3000 60 159 [(false,(.sl false zJ)),(false,(.sl false zJ))] [(false,.bool)] x=Gt x:=by kernel_rfl
def W8:List (FuncId×Sg):=(159,⟨[(false,(.sl false zJ)),(false,(.sl false zJ))],[(false,.bool)],Gt⟩)::W7
theorem aZ:TabOK Tryz.prog (AC pu W8):=AF aY sZ
def o0:List (Nat×Nat×Nat×An):=[(160,4,26,.loop { keep:=[0,1,3,7,15,23,11,19,27,9,17,25,13,21,2,8,16,24,12,20,6,10,18,26,14,22],kb:=[0,1],pl:=[.slot 5 false zJ,.slot 4 false .bool],ex:=[(.ret,[]),(.exit 0,[])],pay:=.unit })]
theorem sc (x:AH [(true,T7),(true,T7)]):Ac Tryz.prog (AC pu W8) (AK o0) 3000 60 160 [(true,T7),(true,T7)] [(false,.bool)] x=Fc x:=by kernel_rfl
def W9:List (FuncId×Sg):=(160,⟨[(true,T7),(true,T7)],[(false,.bool)],Fc⟩)::W8
theorem aa:TabOK Tryz.prog (AC pu W9):=AF aZ sc
def o6:List (Nat×Nat×Nat×An):=[(155,3,3,.loop { keep:=[0,1,4],kb:=[],pl:=[.slot 5 false zJ,.slot 6 false zJ],ex:=[(.exit 0,[])],pay:=.unit })]
theorem se (x:AH [(false,(.sl false (.sl true T2))),(false,(.sl false zJ))]):Ac Tryz.prog (AC pu W9) (AK o6) 3000 60 155 [(false,(.sl false (.sl true T2))),(false,(.sl false zJ))] [zI] x=Dw x:=by kernel_rfl
def XB:List (FuncId×Sg):=(155,⟨[(false,(.sl false (.sl true T2))),(false,(.sl false zJ))],[zI],Dw⟩)::W9
theorem ab:TabOK Tryz.prog (AC pu XB):=AF aa se
def o7:List (Nat×Nat×Nat×An):=[(154,7,21,.loop { keep:=[0,1,15,23,11,27,5,17,25,13,21,4,16,24,12,18,26,14,22],kb:=[0],pl:=[.slot 3 false zJ,.slot 2 false zJ,.slot 6 false zJ],ex:=[(.ret,[]),(.exit 0,[])],pay:=.unit }),(154,15,38,.loop { keep:=[0,1,7,15,63,23,11,67,27,59,5,17,65,25,57,13,21,69,61,4,16,64,24,56,12,68,60,6,18,66,26,58,14,22,70,62],kb:=[0],pl:=[.slot 3 false zJ,.slot 2 false zJ,.slot 8 false zJ],ex:=[(.ret,[]),(.exit 2,[])],pay:=.unit })]
theorem sf (x:AH [(true,T9)]):Ac Tryz.prog (AC pu XB) (AK o7) 3000 60 154 [(true,T9)] [zI,zI] x=Dx x:=by kernel_rfl
def XC:List (FuncId×Sg):=(154,⟨[(true,T9)],[zI,zI],Dx⟩)::XB
theorem ac:TabOK Tryz.prog (AC pu XC):=AF ab sf
end Go.Proofs.YtfilfloanndddaaGreat.Pt
