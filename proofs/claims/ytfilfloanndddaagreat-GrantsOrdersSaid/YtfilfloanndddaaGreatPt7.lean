/- The evaluator comes to each of the plain functions. No condition. -/
import Derived.Test.YtfilfloanndddaaGreatPt6
set_option linter.all false
namespace Go.Proofs.YtfilfloanndddaaGreat.Pt
open Go Go.Proofs.YtfilfloanndddaaGreat.Sv Go.Proofs.YtfilfloanndddaaGreat.Pl
set_option maxRecDepth 1000000
set_option linter.unusedVariables false
def mD:List (Nat×Nat×Nat×An):=[(198,1,31,.loop { keep:=[0,1,7,8,6],kb:=[0,1,25,21,26],pl:=[.slot 9 false zJ,.box 2 [.lf zJ,.ow true (.sl true T3) false],.box 3 [.lf zJ]],ex:=[(.exit 0,[(26,0,none)]),(.ret,[(26,2,some .ret)])],pay:=.unit }),(198,4,41,.loop { keep:=[0,1,7,15,11,9,13,4,8,16,12,6,10,14],kb:=[0,1,3,25,21,34,26],pl:=[.slot 5 false zJ,.box 2 [.lf zJ,.ow true (.sl true T3) false]],ex:=[(.exit 2,[(26,0,none)])],pay:=.unit }),(198,4,42,.loop { keep:=[0,1,7,15,11,9,13,4,8,16,12,6,10,14],kb:=[0,1,35,25,21,26],pl:=[.slot 5 false zJ,.box 2 [.lf zJ,.ow true (.sl true T3) false],.box 3 [.lf zJ]],ex:=[(.exit 2,[(26,0,none)]),(.ret,[(26,2,some .ret)])],pay:=.unit })]
theorem nh (x:AP [(true,T4),zI,(true,T3)]):OE Tryz.prog (Ad pu kI) (Qq mD) 3000 60 140 [(true,T4),zI,(true,T3)] [(true,T4),zI] x=Tq x:=by kernel_rfl
def kK:List (FuncId×Sg):=(140,⟨[(true,T4),zI,(true,T3)],[(true,T4),zI],Tq⟩)::kI
theorem kL:TabOK Tryz.prog (Ad pu kK):=R1 kJ nh
theorem oK (x:AP [(true,T4),zI]):OE Tryz.prog (Ad pu kK) (Qq []) 3000 60 179 [(true,T4),zI] [(true,Yh),zI] x=WV x:=by kernel_rfl
def kM:List (FuncId×Sg):=(179,⟨[(true,T4),zI],[(true,Yh),zI],WV⟩)::kK
theorem kO:TabOK Tryz.prog (Ad pu kM):=R1 kL oK
def mE:List (Nat×Nat×Nat×An):=[(141,3,10,.loop { keep:=[0,1,3,19,5,9,21,2,4,8,20,10,22],kb:=[0,1,2],pl:=[.slot 23 false zJ,.map 4 zJ true Yh],ex:=[(.exit 0,[])],pay:=.unit }),(141,10,22,.loop { keep:=[0,1,3,23,39,19,35,5,33,13,21,37,2,4,8,32,20,36,10,34,22,38],kb:=[0,1,4],pl:=[.slot 9 false zJ,.slot 40 false zJ,.box 2 [.lf zJ,.ow true (.sl true T3) false,.ow true Yh false,.lf zJ],.box 16 [.lf zJ,.lf (.sl true (.sl true T3)),.ow true Yh false,.lf zJ]],ex:=[(.exit 2,[]),(.ret,[])],pay:=.unit })]
theorem ni (x:AP [(true,WR),(true,T4),zI,zI]):OE Tryz.prog (Ad pu kM) (Qq mE) 3000 60 141 [(true,WR),(true,T4),zI,zI] [(true,WR),zI] x=TZ x:=by kernel_rfl
def cW:List (FuncId×Sg):=(141,⟨[(true,WR),(true,T4),zI,zI],[(true,WR),zI],TZ⟩)::kM
theorem eA:TabOK Tryz.prog (Ad pu cW):=R1 kO ni
theorem qh (x:AP [(true,WR),zI]):OE Tryz.prog (Ad pu cW) (Qq []) 3000 60 95 [(true,WR),zI] [(true,WR),zI] x=U8 x:=by kernel_rfl
def cX:List (FuncId×Sg):=(95,⟨[(true,WR),zI],[(true,WR),zI],U8⟩)::cW
theorem eB:TabOK Tryz.prog (Ad pu cX):=R1 eA qh
theorem qP (x:AP [(true,WR),zI]):OE Tryz.prog (Ad pu cX) (Qq []) 3000 60 42 [(true,WR),zI] [(true,WR),(false,.bool),zI] x=Te x:=by kernel_rfl
def cY:List (FuncId×Sg):=(42,⟨[(true,WR),zI],[(true,WR),(false,.bool),zI],Te⟩)::cX
theorem eC:TabOK Tryz.prog (Ad pu cY):=R1 eB qP
theorem qR (x:AP [(true,m8)]):OE Tryz.prog (Ad pu cY) (Qq []) 3000 60 47 [(true,m8)] [] x=VO x:=by kernel_rfl
def cZ:List (FuncId×Sg):=(47,⟨[(true,m8)],[],VO⟩)::cY
theorem eE:TabOK Tryz.prog (Ad pu cZ):=R1 eC qR
def nA:List (Nat×Nat×Nat×An):=[(101,0,47,.loop { keep:=[0,1],kb:=[0,1,35,41,13,45,2,36,34,46],pl:=[],ex:=[],pay:=.unit }),(101,0,68,.loop { keep:=[0,1],kb:=[0,1,55,67,13,2,56,66,62],pl:=[.box 46 [.lf zJ,.lf (.sl true (.sl true T3)),.lf (.sl true Yh),.lf zJ,.lf zJ],.box 57 [.lf zJ,.lf zJ,.lf zJ,.lf zJ,.lf zJ,.lf zJ,.lf zJ,.lf zJ,.lf zJ,.lf zJ,.lf zJ,.lf zJ,.lf zJ,.lf zJ,.lf zJ]],ex:=[(.ret,[(67,0,none)]),(.ret,[(67,2,some (.exit 0))])],pay:=.unit })]
theorem qK (x:AP [(true,WR),zI]):OE Tryz.prog (Ad pu cZ) (Qq nA) 3000 60 14 [(true,WR),zI] [(true,WR),(true,pZ),zI] x=U1 x:=by kernel_rfl
def ca:List (FuncId×Sg):=(14,⟨[(true,WR),zI],[(true,WR),(true,pZ),zI],U1⟩)::cZ
theorem eF:TabOK Tryz.prog (Ad pu ca):=R1 eE qK
def nB:List (Nat×Nat×Nat×An):=[(101,0,47,.loop { keep:=[0,1],kb:=[0,35,41,29,45,12,36,34,46],pl:=[],ex:=[],pay:=.unit }),(101,0,68,.loop { keep:=[0,1],kb:=[0,55,67,56,12,66,62],pl:=[.box 45 [.lf zJ,.lf (.sl true (.sl true T3)),.lf (.sl true Yh),.lf zJ,.lf zJ],.box 50 [.ow false zJ false],.box 57 [.lf zJ,.lf zJ,.lf zJ,.lf zJ,.lf zJ,.lf zJ,.lf zJ,.lf zJ,.lf zJ,.lf zJ,.lf zJ,.lf zJ,.lf zJ,.lf zJ,.lf zJ]],ex:=[(.ret,[(67,0,none)]),(.ret,[(67,2,some (.exit 0))])],pay:=.unit })]
theorem qL (x:AP [(true,WR),zI]):OE Tryz.prog (Ad pu ca) (Qq nB) 3000 60 17 [(true,WR),zI] [(false,(.sl false zJ)),zI] x=UF x:=by kernel_rfl
def cb:List (FuncId×Sg):=(17,⟨[(true,WR),zI],[(false,(.sl false zJ)),zI],UF⟩)::ca
theorem eG:TabOK Tryz.prog (Ad pu cb):=R1 eF qL
def nD:List (Nat×Nat×Nat×An):=[(101,0,52,.loop { keep:=[0,1],kb:=[0,1,3,11,51,2,50,46],pl:=[],ex:=[],pay:=.unit }),(101,0,61,.loop { keep:=[0,1],kb:=[0,1,55,11,59,60],pl:=[.box 32 [.lf zJ,.lf (.sl true (.sl true T3)),.lf (.sl true Yh),.lf zJ,.lf zJ],.box 2 [.lf zJ],.box 3 [.lf zJ]],ex:=[(.ret,[(60,0,none)]),(.ret,[(60,2,some .ret)])],pay:=.unit })]
theorem qN (x:AP [(true,WR),zI]):OE Tryz.prog (Ad pu cb) (Qq nD) 3000 60 20 [(true,WR),zI] [zI,zI] x=XR x:=by kernel_rfl
def cc:List (FuncId×Sg):=(20,⟨[(true,WR),zI],[zI,zI],XR⟩)::cb
theorem eI:TabOK Tryz.prog (Ad pu cc):=R1 eG qN
theorem qJ (x:AP []):OE Tryz.prog (Ad pu cc) (Qq []) 3000 60 13 [] [(false,.bool)] x=Ud x:=by kernel_rfl
def cd:List (FuncId×Sg):=(13,⟨[],[(false,.bool)],Ud⟩)::cc
theorem eJ:TabOK Tryz.prog (Ad pu cd):=R1 eI qJ
def nC:List (Nat×Nat×Nat×An):=[(19,4,7,.loop { keep:=[0,1,7,9,8,6,10],kb:=[],pl:=[.slot 5 false zJ,.slot 4 false .bool],ex:=[(.ret,[]),(.exit 0,[])],pay:=.unit })]
theorem qM (x:AP [(false,(.sl false zJ)),(false,(.sl false zJ))]):OE Tryz.prog (Ad pu cd) (Qq nC) 3000 60 19 [(false,(.sl false zJ)),(false,(.sl false zJ))] [(false,.bool)] x=Vy x:=by kernel_rfl
def fZ:List (FuncId×Sg):=(19,⟨[(false,(.sl false zJ)),(false,(.sl false zJ))],[(false,.bool)],Vy⟩)::cd
theorem eK:TabOK Tryz.prog (Ad pu fZ):=R1 eJ qM
theorem e7 (x:AP [(true,WR),(false,(.int .u8)),(false,(.int .u8))]):OE Tryz.prog (Ad pu fZ) (Qq []) 3000 60 7 [(true,WR),(false,(.int .u8)),(false,(.int .u8))] [(false,.bool)] x=Uk x:=by kernel_rfl
theorem XQ {x:AP [(true,WR),(false,(.int .u8)),(false,(.int .u8))]} (h:Uk x=some true) {b:List Pi.PV} (d:Dd [(true,WR),(false,(.int .u8)),(false,(.int .u8))] x b) {M:Pi.Ao} {w:World} (c : ∀ a v,M a=some v->a.spot=none/\w.cell? a=some v) {vs:List Value} (f:Pi.RepL M Pi.mu0 b vs) :
  Calls Tryz.prog 7 vs.toArray w λe w'=>e = .returned (.bool true)/\RowKit.Grown w w':=RW (Pi.Qn _ λ_=>rfl) eK ((e7 x).trans h) d (RQ (λ_=>rfl) _) c f
end Go.Proofs.YtfilfloanndddaaGreat.Pt
