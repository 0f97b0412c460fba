/- The evaluator comes to each of the plain functions. No condition. -/
import Derived.Test.YthpkjfabdccpdaaGreatPt10
set_option linter.all false
namespace Go.Proofs.YthpkjfabdccpdaaGreat.Pt
open Go Go.Proofs.YthpkjfabdccpdaaGreat.Sv Go.Proofs.YthpkjfabdccpdaaGreat.Pl
set_option maxRecDepth 1000000
set_option linter.unusedVariables false
theorem sW (x:AG [(true,GC),(false,(.sl true T2))]):Ab Tryz.prog (AD pu hC) (AJ []) 3000 60 10 [(true,GC),(false,(.sl true T2))] [(false,.bool)] x=Cs x:=by kernel_rfl
theorem H9 {x:AG [(true,GC),(false,(.sl true T2))]} (h:Cs x=some true) {ps:List Pi.PV} (ha:ID [(true,GC),(false,(.sl true T2))] x ps) {M:Pi.CC} {w:World} (hM : ∀ a v,M a=some v->a.spot=none/\w.cell? a=some v) {vs:List Value} (hr:Pi.RepL M Pi.mu0 ps vs) :
  Calls Tryz.prog 10 vs.toArray w λe w'=>e = .returned (.bool true)/\RowKit.Grown w w':=YX Z4 ((sW x).trans h) ha hM hr
end Go.Proofs.YthpkjfabdccpdaaGreat.Pt
