/- The evaluator comes to each of the plain functions. No condition. -/
import Derived.Test.YtanppfoapnaeaaaGreatPj4
import Derived.Test.YtanppfoapnaeaaaGreatPj2
set_option linter.all false
namespace Go.Proofs.YtanppfoapnaeaaaGreat.Pt
open Go Sv Pl Go.Proofs Go.Proofs.YtanppfoapnaeaaaGreat
open Go.ChangeShapes Go.WideShapes Go.ChangeAt Go.RowKit
set_option maxRecDepth 100000
theorem xV:joinedFacts Tryz.prog 3 Tryz.f3 Rows.pressureWritesSpec Rows.pressureWritesRow=true:=by
 unfold joinedFacts;rw[n1,n2,n3,n4,qP,iH]
 kernel_rfl
end Go.Proofs.YtanppfoapnaeaaaGreat.Pt
