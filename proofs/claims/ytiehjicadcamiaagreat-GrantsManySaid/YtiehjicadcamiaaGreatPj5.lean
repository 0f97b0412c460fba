/- The evaluator comes to each of the plain functions. No condition. -/
import Derived.Test.YtiehjicadcamiaaGreatPj4
import Derived.Test.YtiehjicadcamiaaGreatPj2
set_option linter.all false
open Bool renaming true->zt
namespace Go.Proofs.YtiehjicadcamiaaGreat.Pt
open Go Sv Pl Go.Proofs Go.Proofs.YtiehjicadcamiaaGreat
open Go.ChangeShapes Go.WideShapes Go.ChangeAt Go.RowKit
set_option maxRecDepth 100000
theorem o2':joinedFacts Tryz.prog 4 Tryz.f4 Rows.grantsManySpec Rows.grantsManyRow=zt:=by
 unfold joinedFacts;rw[n1,n2,n3,n4,uQ,kZ]
 kernel_rfl
end Go.Proofs.YtiehjicadcamiaaGreat.Pt
