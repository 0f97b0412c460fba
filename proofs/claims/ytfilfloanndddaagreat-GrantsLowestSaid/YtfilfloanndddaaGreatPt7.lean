/- The evaluator comes to each of the plain functions. No condition. -/
import Derived.Test.YtfilfloanndddaaGreatPt6
set_option linter.all false
namespace Go.Proofs.YtfilfloanndddaaGreat.Pt
open Go Go.Proofs.YtfilfloanndddaaGreat.Sv Go.Proofs.YtfilfloanndddaaGreat.Pl
set_option maxRecDepth 1000000
set_option linter.unusedVariables false
def oS:List (Nat×Nat×Nat×An):=[(198,1,31,.loop { keep:=[0,1,7,8,6],kb:=[0,1,25,21,26],pl:=[.slot 9 false zJ,.box 2 [.lf zJ,.ow true (.sl true T3) false],.box 3 [.lf zJ]],ex:=[(.exit 0,[(26,0,none)]),(.ret,[(26,2,some .ret)])],pay:=.unit }),(198,4,41,.loop { keep:=[0,1,7,15,11,9,13,4,8,16,12,6,10,14],kb:=[0,1,3,25,21,34,26],pl:=[.slot 5 false zJ,.box 2 [.lf zJ,.ow true (.sl true T3) false]],ex:=[(.exit 2,[(26,0,none)])],pay:=.unit }),(198,4,42,.loop { keep:=[0,1,7,15,11,9,13,4,8,16,12,6,10,14],kb:=[0,1,35,25,21,26],pl:=[.slot 5 false zJ,.box 2 [.lf zJ,.ow true (.sl true T3) false],.box 3 [.lf zJ]],ex:=[(.exit 2,[(26,0,none)]),(.ret,[(26,2,some .ret)])],pay:=.unit })]
theorem qm (x:AP [(true,T4),zI,(true,T3)]):OE Tryz.prog (Ad pu mS) (Qq oS) 3000 60 140 [(true,T4),zI,(true,T3)] [(true,T4),zI] x=Tv x:=by kernel_rfl
def mU:List (FuncId×Sg):=(140,⟨[(true,T4),zI,(true,T3)],[(true,T4),zI],Tv⟩)::mS
theorem mV:TabOK Tryz.prog (Ad pu mU):=R1 mT qm
theorem rS (x:AP [(true,T4),zI]):OE Tryz.prog (Ad pu mU) (Qq []) 3000 60 179 [(true,T4),zI] [(true,Xj),zI] x=Wo x:=by kernel_rfl
def mW:List (FuncId×Sg):=(179,⟨[(true,T4),zI],[(true,Xj),zI],Wo⟩)::mU
theorem mX:TabOK Tryz.prog (Ad pu mW):=R1 mV rS
def oT:List (Nat×Nat×Nat×An):=[(141,3,10,.loop { keep:=[0,1,3,19,5,9,21,2,4,8,20,10,22],kb:=[0,1,2],pl:=[.slot 23 false zJ,.map 4 zJ true Xj],ex:=[(.exit 0,[])],pay:=.unit }),(141,10,22,.loop { keep:=[0,1,3,23,39,19,35,5,33,13,21,37,2,4,8,32,20,36,10,34,22,38],kb:=[0,1,4],pl:=[.slot 9 false zJ,.slot 40 false zJ,.box 2 [.lf zJ,.ow true (.sl true T3) false,.ow true Xj false,.lf zJ],.box 16 [.lf zJ,.lf (.sl true (.sl true T3)),.ow true Xj false,.lf zJ]],ex:=[(.exit 2,[]),(.ret,[])],pay:=.unit })]
theorem qn (x:AP [(true,Ur),(true,T4),zI,zI]):OE Tryz.prog (Ad pu mW) (Qq oT) 3000 60 141 [(true,Ur),(true,T4),zI,zI] [(true,Ur),zI] x=Tc x:=by kernel_rfl
def c0:List (FuncId×Sg):=(141,⟨[(true,Ur),(true,T4),zI,zI],[(true,Ur),zI],Tc⟩)::mW
theorem fa:TabOK Tryz.prog (Ad pu c0):=R1 mX qn
theorem uf (x:AP [(true,Ur),zI]):OE Tryz.prog (Ad pu c0) (Qq []) 3000 60 95 [(true,Ur),zI] [(true,Ur),zI] x=VG x:=by kernel_rfl
def dA:List (FuncId×Sg):=(95,⟨[(true,Ur),zI],[(true,Ur),zI],VG⟩)::c0
theorem fb:TabOK Tryz.prog (Ad pu dA):=R1 fa uf
theorem uC (x:AP [(true,Ur),zI]):OE Tryz.prog (Ad pu dA) (Qq []) 3000 60 42 [(true,Ur),zI] [(true,Ur),(false,.bool),zI] x=Tf x:=by kernel_rfl
def dB:List (FuncId×Sg):=(42,⟨[(true,Ur),zI],[(true,Ur),(false,.bool),zI],Tf⟩)::dA
theorem fc:TabOK Tryz.prog (Ad pu dB):=R1 fb uC
theorem uF (x:AP [(true,pZ)]):OE Tryz.prog (Ad pu dB) (Qq []) 3000 60 47 [(true,pZ)] [] x=Vd x:=by kernel_rfl
def dC:List (FuncId×Sg):=(47,⟨[(true,pZ)],[],Vd⟩)::dB
theorem fe:TabOK Tryz.prog (Ad pu dC):=R1 fc uF
def pj:List (Nat×Nat×Nat×An):=[(101,0,47,.loop { keep:=[0,1],kb:=[0,1,35,41,13,45,2,36,34,46],pl:=[],ex:=[],pay:=.unit }),(101,0,68,.loop { keep:=[0,1],kb:=[0,1,55,67,13,2,56,66,62],pl:=[.box 46 [.lf zJ,.lf (.sl true (.sl true T3)),.lf (.sl true Xj),.lf zJ,.lf zJ],.box 57 [.lf zJ,.lf zJ,.lf zJ,.lf zJ,.lf zJ,.lf zJ,.lf zJ,.lf zJ,.lf zJ,.lf zJ,.lf zJ,.lf zJ,.lf zJ,.lf zJ,.lf zJ]],ex:=[(.ret,[(67,0,none)]),(.ret,[(67,2,some (.exit 0))])],pay:=.unit })]
theorem tx (x:AP [(true,Ur),zI]):OE Tryz.prog (Ad pu dC) (Qq pj) 3000 60 14 [(true,Ur),zI] [(true,Ur),(true,tL),zI] x=U6 x:=by kernel_rfl
def dD:List (FuncId×Sg):=(14,⟨[(true,Ur),zI],[(true,Ur),(true,tL),zI],U6⟩)::dC
theorem ff:TabOK Tryz.prog (Ad pu dD):=R1 fe tx
def pn:List (Nat×Nat×Nat×An):=[(101,0,47,.loop { keep:=[0,1],kb:=[0,35,41,29,45,12,36,34,46],pl:=[],ex:=[],pay:=.unit }),(101,0,68,.loop { keep:=[0,1],kb:=[0,55,67,56,12,66,62],pl:=[.box 45 [.lf zJ,.lf (.sl true (.sl true T3)),.lf (.sl true Xj),.lf zJ,.lf zJ],.box 50 [.ow false zJ false],.box 57 [.lf zJ,.lf zJ,.lf zJ,.lf zJ,.lf zJ,.lf zJ,.lf zJ,.lf zJ,.lf zJ,.lf zJ,.lf zJ,.lf zJ,.lf zJ,.lf zJ,.lf zJ]],ex:=[(.ret,[(67,0,none)]),(.ret,[(67,2,some (.exit 0))])],pay:=.unit })]
theorem t4 (x:AP [(true,Ur),zI]):OE Tryz.prog (Ad pu dD) (Qq pn) 3000 60 17 [(true,Ur),zI] [(false,(.sl false zJ)),zI] x=U5 x:=by kernel_rfl
def dE:List (FuncId×Sg):=(17,⟨[(true,Ur),zI],[(false,(.sl false zJ)),zI],U5⟩)::dD
theorem fh:TabOK Tryz.prog (Ad pu dE):=R1 ff t4
def po:List (Nat×Nat×Nat×An):=[(101,0,52,.loop { keep:=[0,1],kb:=[0,1,3,11,51,2,50,46],pl:=[],ex:=[],pay:=.unit }),(101,0,61,.loop { keep:=[0,1],kb:=[0,1,55,11,59,60],pl:=[.box 32 [.lf zJ,.lf (.sl true (.sl true T3)),.lf (.sl true Xj),.lf zJ,.lf zJ],.box 2 [.lf zJ],.box 3 [.lf zJ]],ex:=[(.ret,[(60,0,none)]),(.ret,[(60,2,some .ret)])],pay:=.unit })]
theorem t5 (x:AP [(true,Ur),zI]):OE Tryz.prog (Ad pu dE) (Qq po) 3000 60 20 [(true,Ur),zI] [zI,zI] x=Xl x:=by kernel_rfl
def dF:List (FuncId×Sg):=(20,⟨[(true,Ur),zI],[zI,zI],Xl⟩)::dE
theorem fi:TabOK Tryz.prog (Ad pu dF):=R1 fh t5
theorem tv (x:AP []):OE Tryz.prog (Ad pu dF) (Qq []) 3000 60 13 [] [(false,.bool)] x=VN x:=by kernel_rfl
def dG:List (FuncId×Sg):=(13,⟨[],[(false,.bool)],VN⟩)::dF
theorem fj:TabOK Tryz.prog (Ad pu dG):=R1 fi tv
def od:List (Nat×Nat×Nat×An):=[(159,4,7,.loop { keep:=[0,1,7,9,8,6,10],kb:=[],pl:=[.slot 5 false zJ,.slot 4 false .bool],ex:=[(.ret,[]),(.exit 0,[])],pay:=.unit })]
theorem rG (x:AP [(false,(.sl false zJ)),(false,(.sl false zJ))]):OE Tryz.prog (Ad pu dG) (Qq od) 3000 60 159 [(false,(.sl false zJ)),(false,(.sl false zJ))] [(false,.bool)] x=Wr x:=by kernel_rfl
def dH:List (FuncId×Sg):=(159,⟨[(false,(.sl false zJ)),(false,(.sl false zJ))],[(false,.bool)],Wr⟩)::dG
theorem fm:TabOK Tryz.prog (Ad pu dH):=R1 fj rG
def oe:List (Nat×Nat×Nat×An):=[(160,4,26,.loop { keep:=[0,1,3,7,15,23,11,19,27,9,17,25,13,21,2,8,16,24,12,20,6,10,18,26,14,22],kb:=[0,1],pl:=[.slot 5 false zJ,.slot 4 false .bool],ex:=[(.ret,[]),(.exit 0,[])],pay:=.unit })]
theorem rH (x:AP [(true,T7),(true,T7)]):OE Tryz.prog (Ad pu dH) (Qq oe) 3000 60 160 [(true,T7),(true,T7)] [(false,.bool)] x=WL x:=by kernel_rfl
def dI:List (FuncId×Sg):=(160,⟨[(true,T7),(true,T7)],[(false,.bool)],WL⟩)::dH
theorem fo:TabOK Tryz.prog (Ad pu dI):=R1 fm rH
def oY:List (Nat×Nat×Nat×An):=[(155,3,3,.loop { keep:=[0,1,4],kb:=[],pl:=[.slot 5 false zJ,.slot 6 false zJ],ex:=[(.exit 0,[])],pay:=.unit })]
theorem rC (x:AP [(false,(.sl false (.sl true T2))),(false,(.sl false zJ))]):OE Tryz.prog (Ad pu dI) (Qq oY) 3000 60 155 [(false,(.sl false (.sl true T2))),(false,(.sl false zJ))] [zI] x=VV x:=by kernel_rfl
def dJ:List (FuncId×Sg):=(155,⟨[(false,(.sl false (.sl true T2))),(false,(.sl false zJ))],[zI],VV⟩)::dI
theorem fq:TabOK Tryz.prog (Ad pu dJ):=R1 fo rC
def oX:List (Nat×Nat×Nat×An):=[(154,7,21,.loop { keep:=[0,1,15,23,11,27,5,17,25,13,21,4,16,24,12,18,26,14,22],kb:=[0],pl:=[.slot 3 false zJ,.slot 2 false zJ,.slot 6 false zJ],ex:=[(.ret,[]),(.exit 0,[])],pay:=.unit }),(154,15,38,.loop { keep:=[0,1,7,15,63,23,11,67,27,59,5,17,65,25,57,13,21,69,61,4,16,64,24,56,12,68,60,6,18,66,26,58,14,22,70,62],kb:=[0],pl:=[.slot 3 false zJ,.slot 2 false zJ,.slot 8 false zJ],ex:=[(.ret,[]),(.exit 2,[])],pay:=.unit })]
theorem rB (x:AP [(true,T9)]):OE Tryz.prog (Ad pu dJ) (Qq oX) 3000 60 154 [(true,T9)] [zI,zI] x=VU x:=by kernel_rfl
def dK:List (FuncId×Sg):=(154,⟨[(true,T9)],[zI,zI],VU⟩)::dJ
theorem ft:TabOK Tryz.prog (Ad pu dK):=R1 fq rB
end Go.Proofs.YtfilfloanndddaaGreat.Pt
