/- The evaluator comes to each of the plain functions. No condition. -/
import Derived.Test.YtanppfoapnaeaaaGreatPt10
set_option linter.all false
namespace Go.Proofs.YtanppfoapnaeaaaGreat.Pt
open Go Sv Pl
set_option maxRecDepth 1000000
theorem e3(x:AP [(true,ZM),(false,(.sl true T2))]):OS Tryz.prog (Ae pu iX) (RL []) 3000 60 3 [(true,ZM),(false,(.sl true T2))] [(false,.bool)] x=Us x:=by kernel_rfl
theorem Xa{x:AP [(true,ZM),(false,(.sl true T2))]}(h:Us x=some true){b:List Pi.PV}(d:Df [(true,ZM),(false,(.sl true T2))] x b){M:Pi.Ap}{w:World}(c:∀ a v,M a=some v->a.spot=none/\w.cell? a=some v){vs:List Value}(f:Pi.RepL M Pi.mu0 b vs) :
  Calls Tryz.prog 3 vs.toArray w λe w'=>e=.returned (.bool true)/\RowKit.Grown w w':=Rz (Pi.RI _ λ_=>rfl) gN ((e3 x).trans h) d (Rv (λ_=>rfl) _) c f
end Go.Proofs.YtanppfoapnaeaaaGreat.Pt
