/- grantsKeeps: the law holds: for all arguments the call returns true, and the arguments read as before; no condition. -/
import Derived.Test.YtfilfloanndddaaGreatPj5
set_option linter.all false
namespace Go.Proofs.YtfilfloanndddaaGreat.Pt
open Go Go.Proofs.YtfilfloanndddaaGreat.Sv Go.Proofs.YtfilfloanndddaaGreat.Pl Go.Proofs Go.Proofs.YtfilfloanndddaaGreat
open Go.ChangeShapes Go.WideShapes Go.ChangeAt Go.RowKit
set_option maxRecDepth 100000
set_option linter.unusedVariables false
theorem over:Rows.grantsKeepsRow.holds Tryz.pinned (OpenSpec.ofChange Rows.grantsKeepsSpec) :=
 OpenClaim.holds_of_wide 8 Tryz.f8 rfl rfl rfl rfl rfl rfl rfl ⟨rfl,rfl,rfl,rfl,rfl⟩ rfl rfl rfl rfl rfl (by kernel_rfl) Tryz.func8 tQ
  (of_decide_eq_true (by kernel_rfl)) (by unfold Func.isWrapper;first | (rw [if_pos (by decide +kernel)];kernel_rfl) | (rw [if_neg (by decide +kernel)];exact ⟨rfl,rfl⟩))
  (λb a H enc _=>mg b a H enc)
end Go.Proofs.YtfilfloanndddaaGreat.Pt
namespace Go.Proofs.YtfilfloanndddaaGreat.grantsKeeps
theorem proved:Rows.GrantsKeepsSaid:=Pt.over
#print axioms proved
end Go.Proofs.YtfilfloanndddaaGreat.grantsKeeps
