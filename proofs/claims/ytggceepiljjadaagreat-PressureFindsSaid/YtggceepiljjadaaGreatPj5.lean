/- The evaluator comes to each of the plain functions. No condition. -/
import Derived.Test.YtggceepiljjadaaGreatPj4
import Derived.Test.YtggceepiljjadaaGreatPj2
set_option linter.all false
namespace Go.Proofs.YtggceepiljjadaaGreat.Pt
open Go Sv Pl Go.Proofs Go.Proofs.YtggceepiljjadaaGreat
open Go.ChangeShapes Go.WideShapes Go.ChangeAt Go.RowKit
set_option maxRecDepth 100000
theorem o2':joinedFacts Tryz.prog 3 Tryz.f3 Rows.pressureFindsSpec Rows.pressureFindsRow=true:=by
 unfold joinedFacts;rw[n1,n2,n3,n4,uO,kh]
 kernel_rfl
end Go.Proofs.YtggceepiljjadaaGreat.Pt
