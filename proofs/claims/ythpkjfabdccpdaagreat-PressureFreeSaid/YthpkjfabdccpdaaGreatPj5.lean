/- The evaluator comes to each of the plain functions. No condition. -/
import Derived.Test.YthpkjfabdccpdaaGreatPj4
import Derived.Test.YthpkjfabdccpdaaGreatPj2
set_option linter.all false
namespace Go.Proofs.YthpkjfabdccpdaaGreat.Pt
open Go Go.Proofs.YthpkjfabdccpdaaGreat.Sv Go.Proofs.YthpkjfabdccpdaaGreat.Pl Go.Proofs Go.Proofs.YthpkjfabdccpdaaGreat
open Go.ChangeShapes Go.WideShapes Go.ChangeAt Go.RowKit
set_option maxRecDepth 100000
set_option linter.unusedVariables false
theorem pJ:joinedFacts Tryz.prog 11 Tryz.f11 Rows.pressureFreeSpec Rows.pressureFreeRow=true:=by
 unfold joinedFacts;rw [n1,n2,n3,n4,kw,eM]
 kernel_rfl
end Go.Proofs.YthpkjfabdccpdaaGreat.Pt
