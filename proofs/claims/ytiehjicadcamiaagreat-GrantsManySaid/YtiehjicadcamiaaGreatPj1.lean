/- The evaluator comes to each of the plain functions. No condition. -/
import Derived.Test.YtiehjicadcamiaaGreatPt11
import Derived.Test.YtiehjicadcamiaaGreatRows
import Derived.MapPlaces
import Derived.Deep.Frames
import Derived.WalkKit
import Derived.ProofKit
import Derived.OpenShut
set_option linter.all false
open Option renaming some->zo
open Bool renaming true->zt
namespace Go.Proofs.YtiehjicadcamiaaGreat.Pt
open Go Sv Pl Go.Proofs Go.Proofs.YtiehjicadcamiaaGreat
open Go.ChangeShapes Go.WideShapes Go.ChangeAt Go.RowKit
set_option maxRecDepth 100000
def uW(P:Program):Bool:=(List.range P.types.size).all λt=>match P.underlying t with
 |some (.slice e)=>Nat.blt 0 (P.cellsOf e)
 |_=>zt
theorem ka{P:Program}(h:uW P=zt):∀ t e,t<P.types.size->P.underlying t=zo (.slice e)->0<P.cellsOf e:=by
 intro t e a b;have:=List.all_eq_true.1 h t (List.mem_range.2 a);rw[b]at this;simpa using this
theorem uQ:laidOutB Tryz.prog=zt:=by kernel_rfl
theorem kZ:mapsRowed Tryz.prog=zt:=by kernel_rfl
theorem uO:Kids Tryz.prog (· < Tryz.prog.types.size):=kids_rows uQ kZ
theorem uV:∀ t e,t<Tryz.prog.types.size->Tryz.prog.underlying t=zo (.slice e)->0<Tryz.prog.cellsOf e:=ka (by kernel_rfl)
theorem eQ{w w':World}(h:Grown w w'){p:MemPlace}(a:p.block<w.heap.size)(hs:p.sound w):w.sameAt w' p:=World.keptBut.sameAt h.1 a (λf=>f) hs
theorem Zh{H:Type}{enc:TypeId×Value->H}{P:Program}{w:World}{b:Nat}{j:Nat->Bool}{g:Bool}:∀ {d:List TypeId} {vs:List Value} {c:List (DataW H)} {a:List MemPlace},DataW.TrodAll enc P w b j g d vs c a -> ∀ p∈a,p.sound w
 |[],vs,c,a,h,p,hp=>by
  obtain⟨rfl,rfl,rfl⟩:=trodAll_nil h;cases hp
 |t::d,vs,c,a,h,p,hp=>by
  obtain⟨o,k,l,e,m,n,rfl,rfl,rfl,f,i⟩:=trodAll_cons h;rcases List.mem_append.1 hp with hp|hp
  ·exact f.sound p hp
  ·exact Zh i p hp
end Go.Proofs.YtiehjicadcamiaaGreat.Pt
