/- The evaluator comes to each of the plain functions. No condition. -/
import Derived.Test.YthpkjfabdccpdaaGreatPt9
set_option linter.all false
namespace Go.Proofs.YthpkjfabdccpdaaGreat.Pt
open Go Go.Proofs.YthpkjfabdccpdaaGreat.Sv Go.Proofs.YthpkjfabdccpdaaGreat.Pl
set_option maxRecDepth 1000000
set_option linter.unusedVariables false
def nH:List (Nat×Nat×Nat×An):=[(26,4,26,.loop { keep:=[0,1,3,7,15,23,11,19,27,9,17,25,13,21,2,8,16,24,12,20,6,10,18,26,14,22],kb:=[0,1],pl:=[.slot 5 false (.int .i64),.slot 4 false .bool],ex:=[(.ret,[]),(.exit 0,[])],pay:=.unit })]
theorem oJ (x:AG [(true,E5),(true,E5)]):Aa Tryz.prog (AB pu VE) (AH nH) 3000 60 26 [(true,E5),(true,E5)] [(false,.bool)] x=D1 x:=by kernel_rfl
def dg:List (FuncId×Sg):=(26,⟨[(true,E5),(true,E5)],[(false,.bool)],D1⟩)::VE
theorem Xz:TabOK Tryz.prog (AB pu dg):=AE Xy oJ
theorem e6 (x:AG [(true,E5),(false,(.sl true T2))]):Aa Tryz.prog (AB pu dg) (AH []) 3000 60 6 [(true,E5),(false,(.sl true T2))] [(false,.bool)] x=Cg x:=by kernel_rfl
theorem HV {x:AG [(true,E5),(false,(.sl true T2))]} (h:Cg x=some true) {ps:List Pi.PV} (ha:HZ [(true,E5),(false,(.sl true T2))] x ps) {M:Pi.Bz} {w:World} (hM : ∀ a v,M a=some v->a.spot=none/\w.cell? a=some v) {vs:List Value} (hr:Pi.RepL M Pi.mu0 ps vs) :
  Calls Tryz.prog 6 vs.toArray w λe w'=>e = .returned (.bool true)/\RowKit.Grown w w':=Wq Xz ((e6 x).trans h) ha hM hr
end Go.Proofs.YthpkjfabdccpdaaGreat.Pt
