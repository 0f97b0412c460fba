/- The evaluator comes to each of the plain functions. No condition. -/
import Derived.Test.YtfceigpbgndbgaaGreatDoorPt11
set_option linter.all false
open Option renaming some->zo, none->zn
open Bool renaming true->zt, false->zf
namespace Go.Proofs.YtfceigpbgndbgaaGreatDoor.Pt
open Go Sv Pl
set_option maxRecDepth 1000000
theorem e3(x:AP [(zt,aq)]):Ou Tryz.prog (Ae pu oG) (Rn []) 3000 60 3 [(zt,aq)] [(zf,.bool)] x=Vx x:=by kernel_rfl
theorem ZR{x:AP [(zt,aq)]}(h:Vx x=zo zt){ps:List Pi.PV}(c:Dj [(zt,aq)] x ps){M:Pi.Ak}(gl:Pi.GlOK M){w:World}(b:∀ a v,M a=zo v->a.spot=zn/\w.cell? a=zo v){vs:List Value}(d:Pi.RepL M Pi.mu0 ps vs) :
  Calls Tryz.prog 3 vs.toArray w λe w'=>e=.returned (.bool zt)/\RowKit.Grown w w':=SV Gk.prim mV ((e3 x).trans h) c gl b d
end Go.Proofs.YtfceigpbgndbgaaGreatDoor.Pt
