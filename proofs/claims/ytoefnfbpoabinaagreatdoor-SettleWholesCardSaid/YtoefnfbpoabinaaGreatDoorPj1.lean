/- The evaluator comes to each of the plain functions. No condition. -/
import Derived.Test.YtoefnfbpoabinaaGreatDoorPt8
import Derived.Test.YtoefnfbpoabinaaGreatDoorRows
import Derived.MapPlaces
import Derived.Deep.Frames
import Derived.WalkKit
import Derived.ProofKit
import Derived.OpenShut
set_option linter.all false
open Option renaming some->zo
open Bool renaming true->zt
namespace Go.Proofs.YtoefnfbpoabinaaGreatDoor.Pt
open Go Sv Pl Go.Proofs Go.Proofs.YtoefnfbpoabinaaGreatDoor
open Go.ChangeShapes Go.WideShapes Go.ChangeAt Go.RowKit
set_option maxRecDepth 100000
def yB(P:Program):Bool:=(List.range P.types.size).all λt=>match P.underlying t with
 |some (.slice e)=>Nat.blt 0 (P.cellsOf e)
 |_=>zt
theorem mB{P:Program}(h:yB P=zt):∀ t e,t<P.types.size->P.underlying t=zo (.slice e)->0<P.cellsOf e:=by
 intro t e a b;have:=List.all_eq_true.1 h t (List.mem_range.2 a);rw[b]at this;simpa using this
theorem laid:laidOutB Tryz.prog=zt:=by kernel_rfl
theorem l9:mapsRowed Tryz.prog=zt:=by kernel_rfl
theorem w9:Kids Tryz.prog (· < Tryz.prog.types.size):=kids_rows laid l9
theorem yA:∀ t e,t<Tryz.prog.types.size->Tryz.prog.underlying t=zo (.slice e)->0<Tryz.prog.cellsOf e:=mB (by kernel_rfl)
theorem gX{w w':World}(h:Pi.WStays w w'){p:MemPlace}(a:p.block<w.heap.size)(hs:p.sound w):w.sameAt w' p:=World.keptBut.sameAt (h.kept λ_=>False) a (λf=>f) hs
theorem aj{H:Type}{NV:TypeId×Value->H}{P:Program}{w:World}{b:Nat}{g:Nat->Bool}{hd:Bool}:∀ {c:List TypeId} {vs:List Value} {a:List (DataW H)} {ps:List MemPlace},DataW.TrodAll NV P w b g hd c vs a ps -> ∀ p∈ps,p.sound w
 |[],vs,a,ps,h,p,hp=>by
  obtain⟨rfl,rfl,rfl⟩:=trodAll_nil h;cases hp
 |t::c,vs,a,ps,h,p,hp=>by
  obtain⟨v0,i,j,d,k,l,rfl,rfl,rfl,e,f⟩:=trodAll_cons h;rcases List.mem_append.1 hp with hp|hp
  ·exact e.sound p hp
  ·exact aj f p hp
end Go.Proofs.YtoefnfbpoabinaaGreatDoor.Pt
