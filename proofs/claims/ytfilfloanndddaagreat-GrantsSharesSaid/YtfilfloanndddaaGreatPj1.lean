/- The evaluator comes to each of the plain functions. No condition. -/
import Derived.Test.YtfilfloanndddaaGreatPt11
import Derived.Test.YtfilfloanndddaaGreatRows
import Derived.MapPlaces
import Derived.Deep.Frames
import Derived.WalkKit
import Derived.ProofKit
import Derived.OpenShut
set_option linter.all false
namespace Go.Proofs.YtfilfloanndddaaGreat.Pt
open Go Go.Proofs.YtfilfloanndddaaGreat.Sv Go.Proofs.YtfilfloanndddaaGreat.Pl Go.Proofs Go.Proofs.YtfilfloanndddaaGreat
open Go.ChangeShapes Go.WideShapes Go.ChangeAt Go.RowKit
set_option maxRecDepth 100000
set_option linter.unusedVariables false
def pF (P:Program):Bool:=(List.range P.types.size).all λt=>match P.underlying t with
 | some (.slice e)=>Nat.blt 0 (P.cellsOf e)
 | _=>true
theorem je {P:Program} (h:pF P=true) : ∀ t e,t<P.types.size->P.underlying t=some (.slice e)->0<P.cellsOf e:=by
 intro t e b a;have:=List.all_eq_true.1 h t (List.mem_range.2 b);rw [a] at this;simpa using this
theorem pG:laidOutB Tryz.prog=true:=by kernel_rfl
theorem jf:mapsRowed Tryz.prog=true:=by kernel_rfl
theorem pH:Kids Tryz.prog (· < Tryz.prog.types.size):=kids_rows pG jf
theorem pI : ∀ t e,t<Tryz.prog.types.size->Tryz.prog.underlying t=some (.slice e)->0<Tryz.prog.cellsOf e:=je (by kernel_rfl)
theorem Xs {w w':World} (h:Grown w w') {p:MemPlace} (a:p.block<w.heap.size) (hs:p.sound w):w.sameAt w' p:=World.keptBut.sameAt h.1 a (λf=>f) hs
theorem Ls {H:Type} {enc:TypeId×Value->H} {P:Program} {w:World} {b:Nat} {f:Nat->Bool} {e:Bool} : ∀ {d:List TypeId} {vs:List Value} {c:List (DataW H)} {a:List MemPlace},DataW.TrodAll enc P w b f e d vs c a -> ∀ p∈a,p.sound w
 | [],vs,c,a,h,p,hp=>by
  obtain ⟨rfl,rfl,rfl⟩:=trodAll_nil h;cases hp
 | t::d,vs,c,a,h,p,hp=>by
  obtain ⟨n,g,o,j,l,m,rfl,rfl,rfl,i,k⟩:=trodAll_cons h;rcases List.mem_append.1 hp with hp | hp
  ·exact i.sound p hp
  ·exact Ls k p hp
end Go.Proofs.YtfilfloanndddaaGreat.Pt
