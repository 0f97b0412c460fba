/- The evaluator comes to each of the plain functions. No condition. -/
import Derived.Test.YtoefnfbpoabinabGreatDoorPt8
import Derived.Test.YtoefnfbpoabinabGreatDoorRows
import Derived.MapPlaces
import Derived.Deep.Frames
import Derived.WalkKit
import Derived.ProofKit
import Derived.OpenShut
set_option linter.all false
open Option renaming some->zo
open Bool renaming true->zt
namespace Go.Proofs.YtoefnfbpoabinabGreatDoor.Pt
open Go Sv Pl Go.Proofs Go.Proofs.YtoefnfbpoabinabGreatDoor
open Go.ChangeShapes Go.WideShapes Go.ChangeAt Go.RowKit
set_option maxRecDepth 100000
def AAn(P:Program):Bool:=(List.range P.types.size).all λt=>match P.underlying t with
 |some (.slice e)=>Nat.blt 0 (P.cellsOf e)
 |_=>zt
theorem oX{P:Program}(h:AAn P=zt):∀ t e,t<P.types.size->P.underlying t=zo (.slice e)->0<P.cellsOf e:=by
 intro t e a b;have:=List.all_eq_true.1 h t (List.mem_range.2 a);rw[b]at this;simpa using this
theorem laid:laidOutB Tryz.prog=zt:=by kernel_rfl
theorem oW:mapsRowed Tryz.prog=zt:=by kernel_rfl
theorem zh:Kids Tryz.prog (· < Tryz.prog.types.size):=kids_rows laid oW
theorem AAm:∀ t e,t<Tryz.prog.types.size->Tryz.prog.underlying t=zo (.slice e)->0<Tryz.prog.cellsOf e:=oX (by kernel_rfl)
theorem jV{w w':World}(h:Pi.WStays w w'){p:MemPlace}(a:p.block<w.heap.size)(hs:p.sound w):w.sameAt w' p:=World.keptBut.sameAt (h.kept λ_=>False) a (λf=>f) hs
theorem bj{H:Type}{NV:TypeId×Value->H}{P:Program}{w:World}{b:Nat}{g:Nat->Bool}{hd:Bool}:∀ {c:List TypeId} {vs:List Value} {a:List (DataW H)} {ps:List MemPlace},DataW.TrodAll NV P w b g hd c vs a ps -> ∀ p∈ps,p.sound w
 |[],vs,a,ps,h,p,hp=>by
  obtain⟨rfl,rfl,rfl⟩:=trodAll_nil h;cases hp
 |t::c,vs,a,ps,h,p,hp=>by
  obtain⟨v0,i,j,d,k,l,rfl,rfl,rfl,e,f⟩:=trodAll_cons h;rcases List.mem_append.1 hp with hp|hp
  ·exact e.sound p hp
  ·exact bj f p hp
end Go.Proofs.YtoefnfbpoabinabGreatDoor.Pt
