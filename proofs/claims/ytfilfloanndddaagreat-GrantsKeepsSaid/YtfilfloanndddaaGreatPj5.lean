/- The evaluator comes to each of the plain functions. No condition. -/
import Derived.Test.YtfilfloanndddaaGreatPj4
import Derived.Test.YtfilfloanndddaaGreatPj2
set_option linter.all false
namespace Go.Proofs.YtfilfloanndddaaGreat.Pt
open Go Go.Proofs.YtfilfloanndddaaGreat.Sv Go.Proofs.YtfilfloanndddaaGreat.Pl Go.Proofs Go.Proofs.YtfilfloanndddaaGreat
open Go.ChangeShapes Go.WideShapes Go.ChangeAt Go.RowKit
set_option maxRecDepth 100000
set_option linter.unusedVariables false
theorem tQ:joinedFacts Tryz.prog 8 Tryz.f8 Rows.grantsKeepsSpec Rows.grantsKeepsRow=true:=by
 unfold joinedFacts;rw [n1,n2,n3,n4,oQ,gU]
 kernel_rfl
end Go.Proofs.YtfilfloanndddaaGreat.Pt
