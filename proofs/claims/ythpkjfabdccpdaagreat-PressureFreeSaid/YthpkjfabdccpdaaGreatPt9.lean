/- The evaluator comes to each of the plain functions. No condition. -/
import Derived.Test.YthpkjfabdccpdaaGreatPt8
set_option linter.all false
namespace Go.Proofs.YthpkjfabdccpdaaGreat.Pt
open Go Go.Proofs.YthpkjfabdccpdaaGreat.Sv Go.Proofs.YthpkjfabdccpdaaGreat.Pl
set_option maxRecDepth 1000000
set_option linter.unusedVariables false
def ks:List (Nat×Nat×Nat×An):=[(197,4,27,.loop { keep:=[0,1,3,7,15,23,11,19,27,9,17,25,13,21,2,8,16,24,12,20,28,6,10,18,26,14,22],kb:=[0,1],pl:=[.slot 5 false zJ,.slot 4 false .bool],ex:=[(.ret,[]),(.exit 0,[])],pay:=.unit })]
theorem oX (x:AG [(true,T9),(true,T9)]):Ac Tryz.prog (AC pu VQ) (AI ks) 3000 60 197 [(true,T9),(true,T9)] [(false,.bool)] x=GA x:=by kernel_rfl
def VS:List (FuncId×Sg):=(197,⟨[(true,T9),(true,T9)],[(false,.bool)],GA⟩)::VQ
theorem YB:TabOK Tryz.prog (AC pu VS):=AF YA oX
theorem oY (x:AG [(true,H5),(true,H5)]):Ac Tryz.prog (AC pu VS) (AI []) 3000 60 119 [(true,H5),(true,H5)] [(false,.bool)] x=BS x:=by kernel_rfl
def VT:List (FuncId×Sg):=(119,⟨[(true,H5),(true,H5)],[(false,.bool)],BS⟩)::VS
theorem YC:TabOK Tryz.prog (AC pu VT):=AF YB oY
def oZ:List (Nat×Nat×Nat×An):=[(38,10,42,.loop { keep:=[0,1,7,31,23,39,19,35,27,43,5,17,33,49,25,41,21,37,29,45,4,16,32,48,24,40,20,36,28,44,6,18,34,50,26,42,22,38,30,46],kb:=[0],pl:=[.slot 3 false zJ,.slot 2 false zJ,.slot 8 false zJ],ex:=[(.ret,[]),(.exit 0,[])],pay:=.unit })]
theorem pG (x:AG [(true,O1)]):Ac Tryz.prog (AC pu VT) (AI oZ) 3000 60 38 [(true,O1)] [zI,zI] x=EJ x:=by kernel_rfl
def VU:List (FuncId×Sg):=(38,⟨[(true,O1)],[zI,zI],EJ⟩)::VT
theorem YD:TabOK Tryz.prog (AC pu VU):=AF YC pG
theorem pH (x:AG [(true,Kh)]):Ac Tryz.prog (AC pu VU) (AI []) 3000 60 51 [(true,Kh)] [zI] x=EL x:=by kernel_rfl
def eK:List (FuncId×Sg):=(51,⟨[(true,Kh)],[zI],EL⟩)::VU
theorem YE:TabOK Tryz.prog (AC pu eK):=AF YD pH
def oa:List (Nat×Nat×Nat×An):=[(11,4,16,.loop { keep:=[0,1,15,23,19,17,25,13,21,16,24,20,18,14,22],kb:=[0],pl:=[.slot 3 false zJ,.slot 2 false .bool],ex:=[(.ret,[]),(.exit 0,[])],pay:=.unit }),(11,13,26,.loop { keep:=[0,1,3,15,23,55,19,51,5,17,25,57,13,21,53,16,24,56,20,52,6,18,14,22,54],kb:=[],pl:=[.slot 7 false zJ,.slot 2 false .bool,.box 0 [.lf zJ,.lf (.sl true T2),.lf zJ,.lf (.sl true (.sl true T3)),.lf (.sl true WS),.lf zJ]],ex:=[(.ret,[]),(.exit 2,[])],pay:=.unit })]
theorem pI (x:AG [(true,Kh)]):Ac Tryz.prog (AC pu eK) (AI oa) 3000 60 11 [(true,Kh)] [(false,.bool)] x=DN x:=by kernel_rfl
theorem H4 {x:AG [(true,Kh)]} (h:DN x=some true) {ps:List Pi.PV} (ha:H1 [(true,Kh)] x ps) {M:Pi.B5} {w:World} (hM : ∀ a v,M a=some v->a.spot=none/\w.cell? a=some v) {vs:List Value} (hr:Pi.RepL M Pi.mu0 ps vs) :
  Calls Tryz.prog 11 vs.toArray w λe w'=>e = .returned (.bool true)/\RowKit.Grown w w':=W8 YE ((pI x).trans h) ha hM hr
end Go.Proofs.YthpkjfabdccpdaaGreat.Pt
