/- The evaluator comes to each of the plain functions. No condition. -/
import Derived.Test.YthpkjfabdccpdaaGreatPt7
set_option linter.all false
namespace Go.Proofs.YthpkjfabdccpdaaGreat.Pt
open Go Go.Proofs.YthpkjfabdccpdaaGreat.Sv Go.Proofs.YthpkjfabdccpdaaGreat.Pl
set_option maxRecDepth 1000000
set_option linter.unusedVariables false
def lV:List (Nat×Nat×Nat×An):=[(40,2,2,.loop { keep:=[0,1],kb:=[],pl:=[.slot 5 false (.int .i64),.slot 4 false .bool],ex:=[(.ret,[]),(.exit 0,[])],pay:=.unit })]
theorem mR (x:AF [(false,(.sl true T2)),(false,(.sl true T2))]):Aj Tryz.prog (AC pu Uv) (AK lV) 3000 60 40 [(false,(.sl true T2)),(false,(.sl true T2))] [(false,.bool)] x=Dm x:=by kernel_rfl
def Uw:List (FuncId×Sg):=(40,⟨[(false,(.sl true T2)),(false,(.sl true T2))],[(false,.bool)],Dm⟩)::Uv
theorem XD:TabOK Tryz.prog (AC pu Uw):=AG XC mR
theorem lW (x:AF [(true,T3),(true,T3)]):Aj Tryz.prog (AC pu Uw) (AK []) 3000 60 124 [(true,T3),(true,T3)] [(false,.bool)] x=D5 x:=by kernel_rfl
def Ux:List (FuncId×Sg):=(124,⟨[(true,T3),(true,T3)],[(false,.bool)],D5⟩)::Uw
theorem XE:TabOK Tryz.prog (AC pu Ux):=AG XD lW
def lX:List (Nat×Nat×Nat×An):=[(43,4,7,.loop { keep:=[0,1,7,9,8,6,10],kb:=[],pl:=[.slot 5 false (.int .i64),.slot 4 false .bool],ex:=[(.ret,[]),(.exit 0,[])],pay:=.unit })]
theorem mS (x:AF [(false,(.sl true T3)),(false,(.sl true T3))]):Aj Tryz.prog (AC pu Ux) (AK lX) 3000 60 43 [(false,(.sl true T3)),(false,(.sl true T3))] [(false,.bool)] x=Cu x:=by kernel_rfl
def cf:List (FuncId×Sg):=(43,⟨[(false,(.sl true T3)),(false,(.sl true T3))],[(false,.bool)],Cu⟩)::Ux
theorem XF:TabOK Tryz.prog (AC pu cf):=AG XE mS
def mT:List (Nat×Nat×Nat×An):=[(8,1005005,21,.join { keep:=[0,1,7,31,23,27,5,33,25,21,29,2,4,8,32,24,20,28,6,34,26,30],kb:=[0,18],pl0:=[],pl1:=[.slot 40 false .bool],ex:=[],pay:=.unit }),(8,1009009,41,.join { keep:=[0,1,7,31,47,23,55,11,51,27,43,5,9,33,49,25,13,21,53,29,45,2,4,8,32,48,24,40,12,20,52,28,44,6,10,34,50,26,42,14,54,30,46],kb:=[0,18],pl0:=[],pl1:=[.slot 69 false .bool],ex:=[],pay:=.unit }),(8,12,42,.loop { keep:=[0,1,7,31,47,23,55,11,51,27,43,5,9,33,49,25,13,21,69,53,29,45,2,8,32,48,24,40,12,20,52,28,44,6,10,34,50,26,42,14,54,30,46],kb:=[0,18],pl:=[.slot 15 false (.int .i64),.slot 4 false .bool],ex:=[(.exit 0,[]),(.ret,[])],pay:=.unit }),(8,1014020,44,.join { keep:=[0,1,7,15,31,47,23,71,55,11,51,27,43,5,9,33,49,25,13,21,69,53,29,45,2,8,32,48,24,40,12,20,52,28,44,6,10,34,50,26,42,14,70,54,30,46],kb:=[0,18],pl0:=[.slot 4 false .bool],pl1:=[.slot 4 false .bool],ex:=[(.ret,[])],pay:=.unit }),(8,1015015,54,.join { keep:=[0,1,7,15,31,47,79,23,71,55,11,51,27,43,75,5,9,17,33,49,81,25,13,21,69,53,29,45,77,2,4,8,16,32,48,80,24,40,12,20,52,28,44,76,6,10,34,50,26,42,74,14,70,54,30,46,78],kb:=[0,18],pl0:=[],pl1:=[.slot 95 false .bool],ex:=[],pay:=.unit }),(8,1017017,54,.join { keep:=[0,1,7,15,31,95,47,79,23,71,55,11,51,27,43,75,5,9,17,33,49,81,25,13,21,69,53,29,45,77,2,4,8,16,32,48,80,24,40,12,20,52,28,44,76,6,10,34,50,26,42,74,14,70,54,30,46,78],kb:=[0,18],pl0:=[],pl1:=[.slot 103 false .bool],ex:=[],pay:=.unit }),(8,1019019,64,.join { keep:=[0,1,7,15,31,95,47,79,111,23,71,103,55,11,19,51,27,43,75,107,5,9,17,33,49,81,25,105,13,21,69,53,29,45,77,109,2,4,8,16,32,48,80,24,40,104,12,20,52,28,44,76,108,6,10,18,34,50,26,42,74,106,14,70,54,30,46,78,110],kb:=[0,18],pl0:=[],pl1:=[.slot 129 false .bool],ex:=[],pay:=.unit })]
theorem e8 (x:AF [(true,Gw),(false,(.int .i64))]):Aj Tryz.prog (AC pu cf) (AK mT) 3000 60 8 [(true,Gw),(false,(.int .i64))] [(false,.bool)] x=DK x:=by kernel_rfl
theorem Hu {x:AF [(true,Gw),(false,(.int .i64))]} (h:DK x=some true) {ps:List Pi.PV} (ha:HQ [(true,Gw),(false,(.int .i64))] x ps) {M:Pi.By} {w:World} (hM : ∀ a v,M a=some v->a.spot=none/\w.cell? a=some v) {vs:List Value} (hr:Pi.RepL M Pi.mu0 ps vs) :
  Calls Tryz.prog 8 vs.toArray w λe w'=>e = .returned (.bool true)/\RowKit.Grown w w':=WU XF ((e8 x).trans h) ha hM hr
end Go.Proofs.YthpkjfabdccpdaaGreat.Pt
