/- The evaluator comes to each of the plain functions. No condition. -/
import Derived.Test.YtfceigpbgndbgaaGreatDoorPt9
set_option linter.all false
open Option renaming some->zo, none->zn
open Bool renaming true->zt, false->zf
namespace Go.Proofs.YtfceigpbgndbgaaGreatDoor.Pt
open Go Sv Pl
set_option maxRecDepth 1000000
def yY:Sg:=⟨[(zt,dx)],[(zt,dx)],Wi⟩
theorem e73:tQ iS [] 73 yY:=fun _=>by kernel_rfl
def iT:tL:=(73,yY)::iS
theorem kX:tO iT:=S6 kW e73
def sV:Sg:=⟨[(zt,bO),(zf,(.sl zt T2))],[(zt,bO),zI],XD⟩
theorem AAU:tQ iT [] 118 sV:=fun _=>by kernel_rfl
def iU:tL:=(118,sV)::iT
theorem kY:tO iU:=S6 kX AAU
def yI:Sg:=⟨[(zt,dx)],[(zt,dx),zI],Wl⟩
theorem e43:tQ iU [] 43 yI:=fun _=>by kernel_rfl
def iV:tL:=(43,yI)::iU
theorem kZ:tO iV:=S6 kY e43
def xj:Sg:=⟨[(zt,dx)],[(zt,dx),zI,zI],W5⟩
theorem e10:tQ iV [] 10 xj:=fun _=>by kernel_rfl
def mJ:tL:=(10,xj)::iV
theorem ka:tO mJ:=S6 kZ e10
theorem e4(x:AP [(zt,dx)]):Ou Tryz.prog (Ae pu mJ) (Rn []) 3000 60 4 [(zt,dx)] [(zf,.bool)] x=V1 x:=by kernel_rfl
theorem ZE{x:AP [(zt,dx)]}(h:V1 x=zo zt){ps:List Pi.PV}(c:Dj [(zt,dx)] x ps){M:Pi.Ak}(gl:Pi.GlOK M){w:World}(b:∀ a v,M a=zo v->a.spot=zn/\w.cell? a=zo v){vs:List Value}(d:Pi.RepL M Pi.mu0 ps vs) :
  Calls Tryz.prog 4 vs.toArray w λe w'=>e=.returned (.bool zt)/\RowKit.Grown w w':=SV Gk.prim ka ((e4 x).trans h) c gl b d
end Go.Proofs.YtfceigpbgndbgaaGreatDoor.Pt
