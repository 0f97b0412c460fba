/- pressureFinds: the law holds: for all arguments the call returns true, and the arguments read as before; no condition. -/
import Derived.Test.YtggceepiljjadaaGreatPj5
set_option linter.all false
namespace Go.Proofs.YtggceepiljjadaaGreat.Pt
open Go Sv Pl Go.Proofs Go.Proofs.YtggceepiljjadaaGreat
open Go.ChangeShapes Go.WideShapes Go.ChangeAt Go.RowKit
set_option maxRecDepth 100000
theorem over:Rows.pressureFindsRow.holds Tryz.pinned (OpenSpec.ofChange Rows.pressureFindsSpec):=
 OpenClaim.holds_of_wide 3 Tryz.f3 rfl rfl rfl rfl rfl rfl rfl ⟨rfl,rfl,rfl,rfl,rfl⟩ rfl rfl rfl rfl rfl (by kernel_rfl) Tryz.func3 o2'
  (of_decide_eq_true (by kernel_rfl)) (by unfold Func.isWrapper;first|(rw[if_pos (by decide +kernel)];kernel_rfl)|(rw[if_neg (by decide +kernel)];exact⟨rfl,rfl⟩))
  (λb a H enc _=>sZ b a H enc)
end Go.Proofs.YtggceepiljjadaaGreat.Pt
namespace Go.Proofs.YtggceepiljjadaaGreat.pressureFinds
theorem proved:Rows.PressureFindsSaid:=Pt.over
#print axioms proved
end Go.Proofs.YtggceepiljjadaaGreat.pressureFinds
