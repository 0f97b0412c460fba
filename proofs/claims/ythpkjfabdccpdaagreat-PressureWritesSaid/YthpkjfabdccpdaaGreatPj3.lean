/- pressureWrites: the law holds: for all arguments the call returns true, and the arguments read as before; no condition. -/
import Derived.Test.YthpkjfabdccpdaaGreatPj5
set_option linter.all false
namespace Go.Proofs.YthpkjfabdccpdaaGreat.Pt
open Go Go.Proofs.YthpkjfabdccpdaaGreat.Sv Go.Proofs.YthpkjfabdccpdaaGreat.Pl Go.Proofs Go.Proofs.YthpkjfabdccpdaaGreat
open Go.ChangeShapes Go.WideShapes Go.ChangeAt Go.RowKit
set_option maxRecDepth 100000
set_option linter.unusedVariables false
theorem over:Rows.pressureWritesRow.holds Tryz.pinned (OpenSpec.ofChange Rows.pressureWritesSpec) :=
 OpenClaim.holds_of_wide 10 Tryz.f10 rfl rfl rfl rfl rfl rfl rfl ⟨rfl,rfl,rfl,rfl,rfl⟩ rfl rfl rfl rfl rfl (by kernel_rfl) Tryz.func10 sX
  (of_decide_eq_true (by kernel_rfl)) (by unfold Func.isWrapper;first | (rw [if_pos (by decide +kernel)];kernel_rfl) | (rw [if_neg (by decide +kernel)];exact ⟨rfl,rfl⟩))
  (λos started H enc _=>lJ os started H enc)
end Go.Proofs.YthpkjfabdccpdaaGreat.Pt
namespace Go.Proofs.YthpkjfabdccpdaaGreat.pressureWrites
theorem proved:Rows.PressureWritesSaid:=Pt.over
#print axioms proved
end Go.Proofs.YthpkjfabdccpdaaGreat.pressureWrites
