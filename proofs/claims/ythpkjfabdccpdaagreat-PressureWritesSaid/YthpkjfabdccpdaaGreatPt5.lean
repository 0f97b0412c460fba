/- The evaluator comes to each of the plain functions. No condition. -/
import Derived.Test.YthpkjfabdccpdaaGreatPt4
set_option linter.all false
namespace Go.Proofs.YthpkjfabdccpdaaGreat.Pt
open Go Go.Proofs.YthpkjfabdccpdaaGreat.Sv Go.Proofs.YthpkjfabdccpdaaGreat.Pl
set_option maxRecDepth 1000000
set_option linter.unusedVariables false
theorem pW (x:AG [(true,T3),(false,(.sl true T2))]):Ab Tryz.prog (AD pu fb) (AJ []) 3000 60 205 [(true,T3),(false,(.sl true T2))] [(false,.bool),zI] x=Do x:=by kernel_rfl
def fe:List (FuncId×Sg):=(205,⟨[(true,T3),(false,(.sl true T2))],[(false,.bool),zI],Do⟩)::fb
theorem ff:TabOK Tryz.prog (AD pu fe):=AF fc pW
theorem pX (x:AG [(true,T3),(false,(.sl true T2))]):Ab Tryz.prog (AD pu fe) (AJ []) 3000 60 140 [(true,T3),(false,(.sl true T2))] [(true,T3),zI,zI] x=DG x:=by kernel_rfl
def fh:List (FuncId×Sg):=(140,⟨[(true,T3),(false,(.sl true T2))],[(true,T3),zI,zI],DG⟩)::fe
theorem fi:TabOK Tryz.prog (AD pu fh):=AF ff pX
theorem pY (x:AG [(true,GC)]):Ab Tryz.prog (AD pu fh) (AJ []) 3000 60 142 [(true,GC)] [(true,GC)] x=Bb x:=by kernel_rfl
def fj:List (FuncId×Sg):=(142,⟨[(true,GC)],[(true,GC)],Bb⟩)::fh
theorem fm:TabOK Tryz.prog (AD pu fj):=AF fi pY
theorem pZ (x:AG [(true,T4),zI]):Ab Tryz.prog (AD pu fj) (AJ []) 3000 60 169 [(true,T4),zI] [zI] x=F9 x:=by kernel_rfl
def fo:List (FuncId×Sg):=(169,⟨[(true,T4),zI],[zI],F9⟩)::fj
theorem fq:TabOK Tryz.prog (AD pu fo):=AF fm pZ
theorem pf (x:AG [(true,T4),zI]):Ab Tryz.prog (AD pu fo) (AJ []) 3000 60 108 [(true,T4),zI] [(false,.bool),zI] x=CF x:=by kernel_rfl
def ft:List (FuncId×Sg):=(108,⟨[(true,T4),zI],[(false,.bool),zI],CF⟩)::fo
theorem fu:TabOK Tryz.prog (AD pu ft):=AF fq pf
def md:List (Nat×Nat×Nat×An):=[(171,5,30,.loop { keep:=[0,1,3,7,15,31,23,11,19,27,9,17,25,13,21,29,2,16,32,24,12,20,28,6,10,18,26,14,22,30],kb:=[0,1,12,10],pl:=[.slot 8 false zJ],ex:=[(.exit 0,[])],pay:=.unit })]
theorem pj (x:AG [(true,T4),zI,(false,(.sl true T3))]):Ab Tryz.prog (AD pu ft) (AJ md) 3000 60 171 [(true,T4),zI,(false,(.sl true T3))] [(true,T4)] x=Ea x:=by kernel_rfl
def fw:List (FuncId×Sg):=(171,⟨[(true,T4),zI,(false,(.sl true T3))],[(true,T4)],Ea⟩)::ft
theorem fx:TabOK Tryz.prog (AD pu fw):=AF fu pj
def pk:List (Nat×Nat×Nat×An):=[(199,1,31,.loop { keep:=[0,1,7,8,6],kb:=[0,1,25,21,26],pl:=[.slot 9 false zJ,.box 2 [.lf zJ,.ow true (.sl true T3) false],.box 3 [.lf zJ]],ex:=[(.exit 0,[(26,0,none)]),(.ret,[(26,2,some .ret)])],pay:=.unit }),(199,4,41,.loop { keep:=[0,1,7,15,11,9,13,4,8,16,12,6,10,14],kb:=[0,1,3,25,21,34,26],pl:=[.slot 5 false zJ,.box 2 [.lf zJ,.ow true (.sl true T3) false]],ex:=[(.exit 2,[(26,0,none)])],pay:=.unit }),(199,4,42,.loop { keep:=[0,1,7,15,11,9,13,4,8,16,12,6,10,14],kb:=[0,1,35,25,21,26],pl:=[.slot 5 false zJ,.box 2 [.lf zJ,.ow true (.sl true T3) false],.box 3 [.lf zJ]],ex:=[(.exit 2,[(26,0,none)]),(.ret,[(26,2,some .ret)])],pay:=.unit })]
theorem rt (x:AG [(true,T4),zI,(true,T3)]):Ab Tryz.prog (AD pu fw) (AJ pk) 3000 60 93 [(true,T4),zI,(true,T3)] [(true,T4),zI] x=DT x:=by kernel_rfl
def fy:List (FuncId×Sg):=(93,⟨[(true,T4),zI,(true,T3)],[(true,T4),zI],DT⟩)::fw
theorem f6:TabOK Tryz.prog (AD pu fy):=AF fx rt
theorem pn (x:AG [(true,T4),zI]):Ab Tryz.prog (AD pu fy) (AJ []) 3000 60 173 [(true,T4),zI] [(true,Pv),zI] x=Gl x:=by kernel_rfl
def f7:List (FuncId×Sg):=(173,⟨[(true,T4),zI],[(true,Pv),zI],Gl⟩)::fy
theorem f8:TabOK Tryz.prog (AD pu f7):=AF f6 pn
def po:List (Nat×Nat×Nat×An):=[(94,3,10,.loop { keep:=[0,1,3,19,5,9,21,2,4,8,20,10,22],kb:=[0,1,2],pl:=[.slot 23 false zJ,.map 4 zJ true Pv],ex:=[(.exit 0,[])],pay:=.unit }),(94,10,22,.loop { keep:=[0,1,3,23,39,19,35,5,33,13,21,37,2,4,8,32,20,36,10,34,22,38],kb:=[0,1,4],pl:=[.slot 9 false zJ,.slot 40 false zJ,.box 2 [.lf zJ,.ow true (.sl true T3) false,.ow true Pv false,.lf zJ],.box 16 [.lf zJ,.lf (.sl true (.sl true T3)),.ow true Pv false,.lf zJ]],ex:=[(.exit 2,[]),(.ret,[])],pay:=.unit })]
theorem ru (x:AG [(true,K7),(true,T4),zI,zI]):Ab Tryz.prog (AD pu f7) (AJ po) 3000 60 94 [(true,K7),(true,T4),zI,zI] [(true,K7),zI] x=D4 x:=by kernel_rfl
def f9:List (FuncId×Sg):=(94,⟨[(true,K7),(true,T4),zI,zI],[(true,K7),zI],D4⟩)::f7
theorem gA:TabOK Tryz.prog (AD pu f9):=AF f8 ru
theorem rx (x:AG [(true,K7),(false,(.sl true T2))]):Ab Tryz.prog (AD pu f9) (AJ []) 3000 60 36 [(true,K7),(false,(.sl true T2))] [(true,K7),zI] x=C6 x:=by kernel_rfl
def gB:List (FuncId×Sg):=(36,⟨[(true,K7),(false,(.sl true T2))],[(true,K7),zI],C6⟩)::f9
theorem gC:TabOK Tryz.prog (AD pu gB):=AF gA rx
def pq:List (Nat×Nat×Nat×An):=[(133,4,72,.loop { keep:=[0,1,7,15,11,19,9,17,25,13,21,2,8,16,24,12,20,10,18,14,22],kb:=[0,1,3,7,9,52,10],pl:=[.slot 26 false zJ],ex:=[(.pan 230 true zJ,[]),(.exit 0,[])],pay:=zJ }),(133,9,76,.loop { keep:=[0,1,7,15,11,19,35,9,17,25,13,21,2,8,16,24,12,20,36,10,18,34,26,14,22],kb:=[0,1,3,7,9,52,10],pl:=[.slot 37 false zJ],ex:=[(.pan 230 true zJ,[]),(.exit 2,[])],pay:=zJ })]
theorem ry (x:AG [(true,GC),(false,(.sl true T2))]):Ab Tryz.prog (AD pu gB) (AJ pq) 3000 60 58 [(true,GC),(false,(.sl true T2))] [(true,GC),zI,zI] x=BV x:=by kernel_rfl
def gD:List (FuncId×Sg):=(58,⟨[(true,GC),(false,(.sl true T2))],[(true,GC),zI,zI],BV⟩)::gB
theorem gE:TabOK Tryz.prog (AD pu gD):=AF gC ry
def pt:List (Nat×Nat×Nat×An):=[(133,4,71,.loop { keep:=[0,1,7,15,11,19,9,17,25,13,21,2,8,16,24,12,20,10,18,14,22],kb:=[0,51,9,2,8,6],pl:=[.slot 26 false zJ],ex:=[(.pan 230 true zJ,[]),(.exit 0,[])],pay:=zJ }),(133,9,75,.loop { keep:=[0,1,7,15,11,19,35,9,17,25,13,21,2,8,16,24,12,20,36,10,18,34,26,14,22],kb:=[0,51,9,2,8,6],pl:=[.slot 37 false zJ],ex:=[(.pan 230 true zJ,[]),(.exit 2,[])],pay:=zJ })]
theorem sB (x:AG [(true,GC),(false,(.sl true T2))]):Ab Tryz.prog (AD pu gD) (AJ pt) 3000 60 52 [(true,GC),(false,(.sl true T2))] [(false,.bool),zI] x=G9 x:=by kernel_rfl
def gF:List (FuncId×Sg):=(52,⟨[(true,GC),(false,(.sl true T2))],[(false,.bool),zI],G9⟩)::gD
theorem gG:TabOK Tryz.prog (AD pu gF):=AF gE sB
def pw:List (Nat×Nat×Nat×An):=[(133,4,71,.loop { keep:=[0,1,7,15,11,19,9,17,25,13,21,2,8,16,24,12,20,10,18,14,22],kb:=[0,51,9,2,8,6],pl:=[.slot 26 false zJ],ex:=[(.pan 230 true zJ,[]),(.exit 0,[])],pay:=zJ }),(133,9,75,.loop { keep:=[0,1,7,15,11,19,35,9,17,25,13,21,2,8,16,24,12,20,36,10,18,34,26,14,22],kb:=[0,51,9,2,8,6],pl:=[.slot 37 false zJ],ex:=[(.pan 230 true zJ,[]),(.exit 2,[])],pay:=zJ })]
theorem sC (x:AG [(true,GC),(false,(.sl true T2))]):Ab Tryz.prog (AD pu gF) (AJ pw) 3000 60 54 [(true,GC),(false,(.sl true T2))] [(false,.bool),zI] x=Ha x:=by kernel_rfl
def gH:List (FuncId×Sg):=(54,⟨[(true,GC),(false,(.sl true T2))],[(false,.bool),zI],Ha⟩)::gF
theorem gI:TabOK Tryz.prog (AD pu gH):=AF gG sC
def px:List (Nat×Nat×Nat×An):=[(46,1003003,15,.join { keep:=[0,1,3,23,27,25,21,2,4,24,20,28,26,22],kb:=[5],pl0:=[],pl1:=[.slot 38 false .bool],ex:=[],pay:=.unit }),(46,8,22,.loop { keep:=[1,3,23,39,27,5,25,21,2,4,24,40,20,28,6,26,22,38],kb:=[19,16],pl:=[.slot 0 false .bool,.slot 7 false zJ,.box 5 [.lf zJ,.lf (.sl true T2),.lf zJ,.lf (.sl true (.sl true T3)),.lf (.sl true Pv),.lf zJ]],ex:=[(.exit 0,[]),(.ret,[])],pay:=.unit }),(46,1010013,24,.join { keep:=[1,3,7,23,39,27,5,25,41,21,2,4,24,40,20,28,6,26,42,22,38],kb:=[19,16],pl0:=[.slot 0 false .bool,.box 5 [.lf zJ,.lf (.sl true T2),.lf zJ,.lf (.sl true (.sl true T3)),.lf (.sl true Pv),.lf zJ]],pl1:=[.slot 0 false .bool,.box 5 [.lf zJ,.lf (.sl true T2),.lf zJ,.lf (.sl true (.sl true T3)),.lf (.sl true Pv),.lf zJ]],ex:=[(.ret,[])],pay:=.unit }),(46,1011011,41,.join { keep:=[0,1,3,7,47,23,39,55,51,27,5,9,49,25,41,57,21,53,45,2,4,8,48,24,40,56,20,52,28,6,10,50,26,42,22,38,54,46],kb:=[19,5,37,16],pl0:=[],pl1:=[.slot 66 false .bool],ex:=[],pay:=.unit })]
theorem sE (x:AG []):Ab Tryz.prog (AD pu gH) (AJ px) 3000 60 46 [] [(false,.bool)] x=Ed x:=by kernel_rfl
def gJ:List (FuncId×Sg):=(46,⟨[],[(false,.bool)],Ed⟩)::gH
theorem gK:TabOK Tryz.prog (AD pu gJ):=AF gI sE
end Go.Proofs.YthpkjfabdccpdaaGreat.Pt
