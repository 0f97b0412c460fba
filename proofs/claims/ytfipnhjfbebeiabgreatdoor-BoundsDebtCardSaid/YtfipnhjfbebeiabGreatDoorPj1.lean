/- The evaluator comes to each of the plain functions. No condition. -/
import Derived.Test.YtfipnhjfbebeiabGreatDoorPt10
import Derived.Test.YtfipnhjfbebeiabGreatDoorRows
import Derived.MapPlaces
import Derived.Deep.Frames
import Derived.WalkKit
import Derived.ProofKit
import Derived.OpenShut
set_option linter.all false
namespace Go.Proofs.YtfipnhjfbebeiabGreatDoor.Pt
open Go Sv Pl Go.Proofs Go.Proofs.YtfipnhjfbebeiabGreatDoor
open Go.ChangeShapes Go.WideShapes Go.ChangeAt Go.RowKit
set_option maxRecDepth 100000
def uu (P:Program):Bool:=(List.range P.types.size).all λt=>match P.underlying t with
 | some (.slice e)=>Nat.blt 0 (P.cellsOf e)
 | _=>true
theorem kX {P:Program} (h:uu P=true) : ∀ t e,t<P.types.size->P.underlying t=some (.slice e)->0<P.cellsOf e:=by
 intro t e a b;have:=List.all_eq_true.1 h t (List.mem_range.2 a);rw [b] at this;simpa using this
theorem laid:laidOutB Tryz.prog=true:=by kernel_rfl
theorem kW:mapsRowed Tryz.prog=true:=by kernel_rfl
theorem ui:Kids Tryz.prog (· < Tryz.prog.types.size):=kids_rows laid kW
theorem ut : ∀ t e,t<Tryz.prog.types.size->Tryz.prog.underlying t=some (.slice e)->0<Tryz.prog.cellsOf e:=kX (by kernel_rfl)
theorem eB {w w':World} (h:Grown w w') {p:MemPlace} (a:p.block<w.heap.size) (hs:p.sound w):w.sameAt w' p:=World.keptBut.sameAt h.1 a (λf=>f) hs
theorem ZV {H:Type} {enc:TypeId×Value->H} {P:Program} {w:World} {b:Nat} {g:Nat->Bool} {hd:Bool} : ∀ {c:List TypeId} {vs:List Value} {a:List (DataW H)} {ps:List MemPlace},DataW.TrodAll enc P w b g hd c vs a ps -> ∀ p∈ps,p.sound w
 | [],vs,a,ps,h,p,hp=>by
  obtain ⟨rfl,rfl,rfl⟩:=trodAll_nil h;cases hp
 | t::c,vs,a,ps,h,p,hp=>by
  obtain ⟨m,i,j,d,k,l,rfl,rfl,rfl,e,f⟩:=trodAll_cons h;rcases List.mem_append.1 hp with hp | hp
  ·exact e.sound p hp
  ·exact ZV f p hp
end Go.Proofs.YtfipnhjfbebeiabGreatDoor.Pt
