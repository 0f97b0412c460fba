/- pressureFree: the law holds: for all arguments the call returns true, and the arguments read as before; no condition. -/
import Derived.Test.YthpkjfabdccpdaaGreatPj5
set_option linter.all false
namespace Go.Proofs.YthpkjfabdccpdaaGreat.Pt
open Go Go.Proofs.YthpkjfabdccpdaaGreat.Sv Go.Proofs.YthpkjfabdccpdaaGreat.Pl Go.Proofs Go.Proofs.YthpkjfabdccpdaaGreat
open Go.ChangeShapes Go.WideShapes Go.ChangeAt Go.RowKit
set_option maxRecDepth 100000
set_option linter.unusedVariables false
theorem over:Rows.pressureFreeRow.holds Tryz.pinned (OpenSpec.ofChange Rows.pressureFreeSpec) :=
 OpenClaim.holds_of_wide 11 Tryz.f11 rfl rfl rfl rfl rfl rfl rfl ⟨rfl,rfl,rfl,rfl,rfl⟩ rfl rfl rfl rfl rfl (by kernel_rfl) Tryz.func11 pJ
  (of_decide_eq_true (by kernel_rfl)) (by unfold Func.isWrapper;first | (rw [if_pos (by decide +kernel)];kernel_rfl) | (rw [if_neg (by decide +kernel)];exact ⟨rfl,rfl⟩))
  (λos started H enc _=>jI os started H enc)
end Go.Proofs.YthpkjfabdccpdaaGreat.Pt
namespace Go.Proofs.YthpkjfabdccpdaaGreat.pressureFree
theorem proved:Rows.PressureFreeSaid:=Pt.over
#print axioms proved
end Go.Proofs.YthpkjfabdccpdaaGreat.pressureFree
