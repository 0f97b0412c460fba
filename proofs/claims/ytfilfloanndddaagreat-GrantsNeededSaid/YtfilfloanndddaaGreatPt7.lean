/- The evaluator comes to each of the plain functions. No condition. -/
import Derived.Test.YtfilfloanndddaaGreatPt6
set_option linter.all false
namespace Go.Proofs.YtfilfloanndddaaGreat.Pt
open Go Go.Proofs.YtfilfloanndddaaGreat.Sv Go.Proofs.YtfilfloanndddaaGreat.Pl
set_option maxRecDepth 1000000
set_option linter.unusedVariables false
def na:List (Nat×Nat×Nat×An):=[(198,1,31,.loop { keep:=[0,1,7,8,6],kb:=[0,1,25,21,26],pl:=[.slot 9 false zJ,.box 2 [.lf zJ,.ow true (.sl true T3) false],.box 3 [.lf zJ]],ex:=[(.exit 0,[(26,0,none)]),(.ret,[(26,2,some .ret)])],pay:=.unit }),(198,4,41,.loop { keep:=[0,1,7,15,11,9,13,4,8,16,12,6,10,14],kb:=[0,1,3,25,21,34,26],pl:=[.slot 5 false zJ,.box 2 [.lf zJ,.ow true (.sl true T3) false]],ex:=[(.exit 2,[(26,0,none)])],pay:=.unit }),(198,4,42,.loop { keep:=[0,1,7,15,11,9,13,4,8,16,12,6,10,14],kb:=[0,1,35,25,21,26],pl:=[.slot 5 false zJ,.box 2 [.lf zJ,.ow true (.sl true T3) false],.box 3 [.lf zJ]],ex:=[(.exit 2,[(26,0,none)]),(.ret,[(26,2,some .ret)])],pay:=.unit })]
theorem po (x:AP [(true,T4),zI,(true,T3)]):OE Tryz.prog (Ad pu lZ) (Qq na) 3000 60 140 [(true,T4),zI,(true,T3)] [(true,T4),zI] x=Tu x:=by kernel_rfl
def lg:List (FuncId×Sg):=(140,⟨[(true,T4),zI,(true,T3)],[(true,T4),zI],Tu⟩)::lZ
theorem lh:TabOK Tryz.prog (Ad pu lg):=R1 ld po
theorem qT (x:AP [(true,T4),zI]):OE Tryz.prog (Ad pu lg) (Qq []) 3000 60 179 [(true,T4),zI] [(true,Yn),zI] x=Wi x:=by kernel_rfl
def lj:List (FuncId×Sg):=(179,⟨[(true,T4),zI],[(true,Yn),zI],Wi⟩)::lg
theorem lm:TabOK Tryz.prog (Ad pu lj):=R1 lh qT
def ng:List (Nat×Nat×Nat×An):=[(141,3,10,.loop { keep:=[0,1,3,19,5,9,21,2,4,8,20,10,22],kb:=[0,1,2],pl:=[.slot 23 false zJ,.map 4 zJ true Yn],ex:=[(.exit 0,[])],pay:=.unit }),(141,10,22,.loop { keep:=[0,1,3,23,39,19,35,5,33,13,21,37,2,4,8,32,20,36,10,34,22,38],kb:=[0,1,4],pl:=[.slot 9 false zJ,.slot 40 false zJ,.box 2 [.lf zJ,.ow true (.sl true T3) false,.ow true Yn false,.lf zJ],.box 16 [.lf zJ,.lf (.sl true (.sl true T3)),.ow true Yn false,.lf zJ]],ex:=[(.exit 2,[]),(.ret,[])],pay:=.unit })]
theorem pq (x:AP [(true,Vt),(true,T4),zI,zI]):OE Tryz.prog (Ad pu lj) (Qq ng) 3000 60 141 [(true,Vt),(true,T4),zI,zI] [(true,Vt),zI] x=Tc x:=by kernel_rfl
def cy:List (FuncId×Sg):=(141,⟨[(true,Vt),(true,T4),zI,zI],[(true,Vt),zI],Tc⟩)::lj
theorem fE:TabOK Tryz.prog (Ad pu cy):=R1 lm pq
theorem tR (x:AP [(true,Vt),zI]):OE Tryz.prog (Ad pu cy) (Qq []) 3000 60 95 [(true,Vt),zI] [(true,Vt),zI] x=VC x:=by kernel_rfl
def cz:List (FuncId×Sg):=(95,⟨[(true,Vt),zI],[(true,Vt),zI],VC⟩)::cy
theorem fF:TabOK Tryz.prog (Ad pu cz):=R1 fE tR
theorem ss (x:AP [(true,Vt),zI]):OE Tryz.prog (Ad pu cz) (Qq []) 3000 60 42 [(true,Vt),zI] [(true,Vt),(false,.bool),zI] x=TW x:=by kernel_rfl
def c0:List (FuncId×Sg):=(42,⟨[(true,Vt),zI],[(true,Vt),(false,.bool),zI],TW⟩)::cz
theorem fG:TabOK Tryz.prog (Ad pu c0):=R1 fF ss
theorem sv (x:AP [(true,oq)]):OE Tryz.prog (Ad pu c0) (Qq []) 3000 60 47 [(true,oq)] [] x=VY x:=by kernel_rfl
def dA:List (FuncId×Sg):=(47,⟨[(true,oq)],[],VY⟩)::c0
theorem fH:TabOK Tryz.prog (Ad pu dA):=R1 fG sv
def ou:List (Nat×Nat×Nat×An):=[(101,0,47,.loop { keep:=[0,1],kb:=[0,1,35,41,13,45,2,36,34,46],pl:=[],ex:=[],pay:=.unit }),(101,0,68,.loop { keep:=[0,1],kb:=[0,1,55,67,13,2,56,66,62],pl:=[.box 46 [.lf zJ,.lf (.sl true (.sl true T3)),.lf (.sl true Yn),.lf zJ,.lf zJ],.box 57 [.lf zJ,.lf zJ,.lf zJ,.lf zJ,.lf zJ,.lf zJ,.lf zJ,.lf zJ,.lf zJ,.lf zJ,.lf zJ,.lf zJ,.lf zJ,.lf zJ,.lf zJ]],ex:=[(.ret,[(67,0,none)]),(.ret,[(67,2,some (.exit 0))])],pay:=.unit })]
theorem sc (x:AP [(true,Vt),zI]):OE Tryz.prog (Ad pu dA) (Qq ou) 3000 60 14 [(true,Vt),zI] [(true,Vt),(true,ry),zI] x=UN x:=by kernel_rfl
def dB:List (FuncId×Sg):=(14,⟨[(true,Vt),zI],[(true,Vt),(true,ry),zI],UN⟩)::dA
theorem fI:TabOK Tryz.prog (Ad pu dB):=R1 fH sc
def ov:List (Nat×Nat×Nat×An):=[(101,0,47,.loop { keep:=[0,1],kb:=[0,35,41,29,45,12,36,34,46],pl:=[],ex:=[],pay:=.unit }),(101,0,68,.loop { keep:=[0,1],kb:=[0,55,67,56,12,66,62],pl:=[.box 45 [.lf zJ,.lf (.sl true (.sl true T3)),.lf (.sl true Yn),.lf zJ,.lf zJ],.box 50 [.ow false zJ false],.box 57 [.lf zJ,.lf zJ,.lf zJ,.lf zJ,.lf zJ,.lf zJ,.lf zJ,.lf zJ,.lf zJ,.lf zJ,.lf zJ,.lf zJ,.lf zJ,.lf zJ,.lf zJ]],ex:=[(.ret,[(67,0,none)]),(.ret,[(67,2,some (.exit 0))])],pay:=.unit })]
theorem se (x:AP [(true,Vt),zI]):OE Tryz.prog (Ad pu dB) (Qq ov) 3000 60 17 [(true,Vt),zI] [(false,(.sl false zJ)),zI] x=Uk x:=by kernel_rfl
def dC:List (FuncId×Sg):=(17,⟨[(true,Vt),zI],[(false,(.sl false zJ)),zI],Uk⟩)::dB
theorem fJ:TabOK Tryz.prog (Ad pu dC):=R1 fI se
def oz:List (Nat×Nat×Nat×An):=[(101,0,52,.loop { keep:=[0,1],kb:=[0,1,3,11,51,2,50,46],pl:=[],ex:=[],pay:=.unit }),(101,0,61,.loop { keep:=[0,1],kb:=[0,1,55,11,59,60],pl:=[.box 32 [.lf zJ,.lf (.sl true (.sl true T3)),.lf (.sl true Yn),.lf zJ,.lf zJ],.box 2 [.lf zJ],.box 3 [.lf zJ]],ex:=[(.ret,[(60,0,none)]),(.ret,[(60,2,some .ret)])],pay:=.unit })]
theorem sf (x:AP [(true,Vt),zI]):OE Tryz.prog (Ad pu dC) (Qq oz) 3000 60 20 [(true,Vt),zI] [zI,zI] x=VH x:=by kernel_rfl
def dD:List (FuncId×Sg):=(20,⟨[(true,Vt),zI],[zI,zI],VH⟩)::dC
theorem fK:TabOK Tryz.prog (Ad pu dD):=R1 fJ sf
theorem sZ (x:AP []):OE Tryz.prog (Ad pu dD) (Qq []) 3000 60 13 [] [(false,.bool)] x=VI x:=by kernel_rfl
def dE:List (FuncId×Sg):=(13,⟨[],[(false,.bool)],VI⟩)::dD
theorem fL:TabOK Tryz.prog (Ad pu dE):=R1 fK sZ
def nu:List (Nat×Nat×Nat×An):=[(159,4,7,.loop { keep:=[0,1,7,9,8,6,10],kb:=[],pl:=[.slot 5 false zJ,.slot 4 false .bool],ex:=[(.ret,[]),(.exit 0,[])],pay:=.unit })]
theorem qI (x:AP [(false,(.sl false zJ)),(false,(.sl false zJ))]):OE Tryz.prog (Ad pu dE) (Qq nu) 3000 60 159 [(false,(.sl false zJ)),(false,(.sl false zJ))] [(false,.bool)] x=Wl x:=by kernel_rfl
def dF:List (FuncId×Sg):=(159,⟨[(false,(.sl false zJ)),(false,(.sl false zJ))],[(false,.bool)],Wl⟩)::dE
theorem fM:TabOK Tryz.prog (Ad pu dF):=R1 fL qI
def nv:List (Nat×Nat×Nat×An):=[(160,4,26,.loop { keep:=[0,1,3,7,15,23,11,19,27,9,17,25,13,21,2,8,16,24,12,20,6,10,18,26,14,22],kb:=[0,1],pl:=[.slot 5 false zJ,.slot 4 false .bool],ex:=[(.ret,[]),(.exit 0,[])],pay:=.unit })]
theorem qJ (x:AP [(true,T7),(true,T7)]):OE Tryz.prog (Ad pu dF) (Qq nv) 3000 60 160 [(true,T7),(true,T7)] [(false,.bool)] x=WE x:=by kernel_rfl
def dG:List (FuncId×Sg):=(160,⟨[(true,T7),(true,T7)],[(false,.bool)],WE⟩)::dF
theorem fN:TabOK Tryz.prog (Ad pu dG):=R1 fM qJ
def nl:List (Nat×Nat×Nat×An):=[(155,3,3,.loop { keep:=[0,1,4],kb:=[],pl:=[.slot 5 false zJ,.slot 6 false zJ],ex:=[(.exit 0,[])],pay:=.unit })]
theorem qE (x:AP [(false,(.sl false (.sl true T2))),(false,(.sl false zJ))]):OE Tryz.prog (Ad pu dG) (Qq nl) 3000 60 155 [(false,(.sl false (.sl true T2))),(false,(.sl false zJ))] [zI] x=VQ x:=by kernel_rfl
def dH:List (FuncId×Sg):=(155,⟨[(false,(.sl false (.sl true T2))),(false,(.sl false zJ))],[zI],VQ⟩)::dG
theorem fO:TabOK Tryz.prog (Ad pu dH):=R1 fN qE
def nk:List (Nat×Nat×Nat×An):=[(154,7,21,.loop { keep:=[0,1,15,23,11,27,5,17,25,13,21,4,16,24,12,18,26,14,22],kb:=[0],pl:=[.slot 3 false zJ,.slot 2 false zJ,.slot 6 false zJ],ex:=[(.ret,[]),(.exit 0,[])],pay:=.unit }),(154,15,38,.loop { keep:=[0,1,7,15,63,23,11,67,27,59,5,17,65,25,57,13,21,69,61,4,16,64,24,56,12,68,60,6,18,66,26,58,14,22,70,62],kb:=[0],pl:=[.slot 3 false zJ,.slot 2 false zJ,.slot 8 false zJ],ex:=[(.ret,[]),(.exit 2,[])],pay:=.unit })]
theorem qD (x:AP [(true,T9)]):OE Tryz.prog (Ad pu dH) (Qq nk) 3000 60 154 [(true,T9)] [zI,zI] x=VP x:=by kernel_rfl
def dI:List (FuncId×Sg):=(154,⟨[(true,T9)],[zI,zI],VP⟩)::dH
theorem fQ:TabOK Tryz.prog (Ad pu dI):=R1 fO qD
end Go.Proofs.YtfilfloanndddaaGreat.Pt
