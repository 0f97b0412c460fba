/- The evaluator comes to each of the plain functions. No condition. -/
import Derived.Test.YtanppfoapnaeaaaGreatPt11
import Derived.Test.YtanppfoapnaeaaaGreatRows
import Derived.MapPlaces
import Derived.Deep.Frames
import Derived.WalkKit
import Derived.ProofKit
import Derived.OpenShut
set_option linter.all false
namespace Go.Proofs.YtanppfoapnaeaaaGreat.Pt
open Go Sv Pl Go.Proofs Go.Proofs.YtanppfoapnaeaaaGreat
open Go.ChangeShapes Go.WideShapes Go.ChangeAt Go.RowKit
set_option maxRecDepth 100000
def qU(P:Program):Bool:=(List.range P.types.size).all λt=>match P.underlying t with
 |some (.slice e)=>Nat.blt 0 (P.cellsOf e)
 |_=>true
theorem iI{P:Program}(h:qU P=true):∀ t e,t<P.types.size->P.underlying t=some (.slice e)->0<P.cellsOf e:=by
 intro t e a b;have:=List.all_eq_true.1 h t (List.mem_range.2 a);rw[b]at this;simpa using this
theorem qP:laidOutB Tryz.prog=true:=by kernel_rfl
theorem iH:mapsRowed Tryz.prog=true:=by kernel_rfl
theorem qO:Kids Tryz.prog (· < Tryz.prog.types.size):=kids_rows qP iH
theorem qT:∀ t e,t<Tryz.prog.types.size->Tryz.prog.underlying t=some (.slice e)->0<Tryz.prog.cellsOf e:=iI (by kernel_rfl)
theorem bc{w w':World}(h:Grown w w'){p:MemPlace}(a:p.block<w.heap.size)(hs:p.sound w):w.sameAt w' p:=World.keptBut.sameAt h.1 a (λf=>f) hs
theorem Yd{H:Type}{enc:TypeId×Value->H}{P:Program}{w:World}{b:Nat}{j:Nat->Bool}{g:Bool}:∀ {d:List TypeId} {vs:List Value} {c:List (DataW H)} {a:List MemPlace},DataW.TrodAll enc P w b j g d vs c a -> ∀ p∈a,p.sound w
 |[],vs,c,a,h,p,hp=>by
  obtain⟨rfl,rfl,rfl⟩:=trodAll_nil h;cases hp
 |t::d,vs,c,a,h,p,hp=>by
  obtain⟨o,k,l,e,m,n,rfl,rfl,rfl,f,i⟩:=trodAll_cons h;rcases List.mem_append.1 hp with hp|hp
  ·exact f.sound p hp
  ·exact Yd i p hp
end Go.Proofs.YtanppfoapnaeaaaGreat.Pt
