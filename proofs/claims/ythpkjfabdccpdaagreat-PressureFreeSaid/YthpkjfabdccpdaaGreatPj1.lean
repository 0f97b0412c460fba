/- The evaluator comes to each of the plain functions. No condition. -/
import Derived.Test.YthpkjfabdccpdaaGreatPt9
import Derived.Test.YthpkjfabdccpdaaGreatRows
import Derived.MapPlaces
import Derived.Deep.Frames
import Derived.WalkKit
import Derived.ProofKit
import Derived.OpenShut
set_option linter.all false
namespace Go.Proofs.YthpkjfabdccpdaaGreat.Pt
open Go Go.Proofs.YthpkjfabdccpdaaGreat.Sv Go.Proofs.YthpkjfabdccpdaaGreat.Pl Go.Proofs Go.Proofs.YthpkjfabdccpdaaGreat
open Go.ChangeShapes Go.WideShapes Go.ChangeAt Go.RowKit
set_option maxRecDepth 100000
set_option linter.unusedVariables false
def ku (P:Program):Bool:=(List.range P.types.size).all λt=>match P.underlying t with
 | some (.slice e)=>Nat.blt 0 (P.cellsOf e)
 | _=>true
theorem eL {P:Program} (h:ku P=true) : ∀ t e,t<P.types.size->P.underlying t=some (.slice e)->0<P.cellsOf e:=by
 intro t e ht hu;have:=List.all_eq_true.1 h t (List.mem_range.2 ht);rw [hu] at this;simpa using this
theorem kw:laidOutB Tryz.prog=true:=by kernel_rfl
theorem eM:mapsRowed Tryz.prog=true:=by kernel_rfl
theorem ky:Kids Tryz.prog (· < Tryz.prog.types.size):=kids_rows kw eM
theorem kz : ∀ t e,t<Tryz.prog.types.size->Tryz.prog.underlying t=some (.slice e)->0<Tryz.prog.cellsOf e:=eL (by kernel_rfl)
theorem VV {w w':World} (h:Grown w w') {p:MemPlace} (hb:p.block<w.heap.size) (hs:p.sound w):w.sameAt w' p:=World.keptBut.sameAt h.1 hb (λf=>f) hs
theorem Ki {H:Type} {enc:TypeId×Value->H} {P:Program} {w:World} {b:Nat} {sp:Nat->Bool} {hd:Bool} : ∀ {ts:List TypeId} {vs:List Value} {ds:List (DataW H)} {ps:List MemPlace},DataW.TrodAll enc P w b sp hd ts vs ds ps -> ∀ p∈ps,p.sound w
 | [],vs,ds,ps,h,p,hp=>by
  obtain ⟨rfl,rfl,rfl⟩:=trodAll_nil h;cases hp
 | t::ts,vs,ds,ps,h,p,hp=>by
  obtain ⟨v0,vs0,d0,ds0,p0,q0,rfl,rfl,rfl,h0,r0⟩:=trodAll_cons h;rcases List.mem_append.1 hp with hp | hp
  ·exact h0.sound p hp
  ·exact Ki r0 p hp
end Go.Proofs.YthpkjfabdccpdaaGreat.Pt
