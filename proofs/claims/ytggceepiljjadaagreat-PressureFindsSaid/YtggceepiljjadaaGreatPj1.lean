/- The evaluator comes to each of the plain functions. No condition. -/
import Derived.Test.YtggceepiljjadaaGreatPt10
import Derived.Test.YtggceepiljjadaaGreatRows
import Derived.MapPlaces
import Derived.Deep.Frames
import Derived.WalkKit
import Derived.ProofKit
import Derived.OpenShut
set_option linter.all false
namespace Go.Proofs.YtggceepiljjadaaGreat.Pt
open Go Sv Pl Go.Proofs Go.Proofs.YtggceepiljjadaaGreat
open Go.ChangeShapes Go.WideShapes Go.ChangeAt Go.RowKit
set_option maxRecDepth 100000
def uT(P:Program):Bool:=(List.range P.types.size).all λt=>match P.underlying t with
 |some (.slice e)=>Nat.blt 0 (P.cellsOf e)
 |_=>true
theorem ki{P:Program}(h:uT P=true):∀ t e,t<P.types.size->P.underlying t=some (.slice e)->0<P.cellsOf e:=by
 intro t e a b;have:=List.all_eq_true.1 h t (List.mem_range.2 a);rw[b]at this;simpa using this
theorem uO:laidOutB Tryz.prog=true:=by kernel_rfl
theorem kh:mapsRowed Tryz.prog=true:=by kernel_rfl
theorem uN:Kids Tryz.prog (· < Tryz.prog.types.size):=kids_rows uO kh
theorem uS:∀ t e,t<Tryz.prog.types.size->Tryz.prog.underlying t=some (.slice e)->0<Tryz.prog.cellsOf e:=ki (by kernel_rfl)
theorem eM{w w':World}(h:Grown w w'){p:MemPlace}(a:p.block<w.heap.size)(hs:p.sound w):w.sameAt w' p:=World.keptBut.sameAt h.1 a (λf=>f) hs
theorem Zi{H:Type}{enc:TypeId×Value->H}{P:Program}{w:World}{b:Nat}{j:Nat->Bool}{g:Bool}:∀ {d:List TypeId} {vs:List Value} {c:List (DataW H)} {a:List MemPlace},DataW.TrodAll enc P w b j g d vs c a -> ∀ p∈a,p.sound w
 |[],vs,c,a,h,p,hp=>by
  obtain⟨rfl,rfl,rfl⟩:=trodAll_nil h;cases hp
 |t::d,vs,c,a,h,p,hp=>by
  obtain⟨o,k,l,e,m,n,rfl,rfl,rfl,f,i⟩:=trodAll_cons h;rcases List.mem_append.1 hp with hp|hp
  ·exact f.sound p hp
  ·exact Zi i p hp
end Go.Proofs.YtggceepiljjadaaGreat.Pt
