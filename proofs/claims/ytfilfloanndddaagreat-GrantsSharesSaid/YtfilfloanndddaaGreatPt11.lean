/- The evaluator comes to each of the plain functions. No condition. -/
import Derived.Test.YtfilfloanndddaaGreatPt10
set_option linter.all false
namespace Go.Proofs.YtfilfloanndddaaGreat.Pt
open Go Go.Proofs.YtfilfloanndddaaGreat.Sv Go.Proofs.YtfilfloanndddaaGreat.Pl
set_option maxRecDepth 1000000
set_option linter.unusedVariables false
theorem e3 (x:AH [(true,CG),zI]):Ac Tryz.prog (AC pu jd) (AK []) 3000 60 3 [(true,CG),zI] [(false,.bool)] x=Cw x:=by kernel_rfl
theorem I5 {x:AH [(true,CG),zI]} (h:Cw x=some true) {b:List Pi.PV} (c:IZ [(true,CG),zI] x b) {M:Pi.CJ} {w:World} (d : ∀ a v,M a=some v->a.spot=none/\w.cell? a=some v) {vs:List Value} (f:Pi.RepL M Pi.mu0 b vs) :
  Calls Tryz.prog 3 vs.toArray w λe w'=>e = .returned (.bool true)/\RowKit.Grown w w':=Zl (Pi.Tz _ λ_=>rfl) bY ((e3 x).trans h) c (Zk (λ_=>rfl) _) d f
end Go.Proofs.YtfilfloanndddaaGreat.Pt
