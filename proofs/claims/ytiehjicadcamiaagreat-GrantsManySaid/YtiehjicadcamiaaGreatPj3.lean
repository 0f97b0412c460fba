/- grantsMany: the law holds: for all arguments the call returns true, and the arguments read as before; no condition. -/
import Derived.Test.YtiehjicadcamiaaGreatPj5
set_option linter.all false
namespace Go.Proofs.YtiehjicadcamiaaGreat.Pt
open Go Sv Pl Go.Proofs Go.Proofs.YtiehjicadcamiaaGreat
open Go.ChangeShapes Go.WideShapes Go.ChangeAt Go.RowKit
set_option maxRecDepth 100000
theorem over:Rows.grantsManyRow.holds Tryz.pinned (OpenSpec.ofChange Rows.grantsManySpec):=
 OpenClaim.holds_of_wide 4 Tryz.f4 rfl rfl rfl rfl rfl rfl rfl ⟨rfl,rfl,rfl,rfl,rfl⟩ rfl rfl rfl rfl rfl (by kernel_rfl) Tryz.func4 o2'
  (of_decide_eq_true (by kernel_rfl)) (by unfold Func.isWrapper;first|(rw[zy (by decide +kernel)];kernel_rfl)|(rw[zx (by decide +kernel)];exact⟨rfl,rfl⟩))
  (λb a H enc _=>sW b a H enc)
end Go.Proofs.YtiehjicadcamiaaGreat.Pt
namespace Go.Proofs.YtiehjicadcamiaaGreat.grantsMany
theorem proved:Rows.GrantsManySaid:=Pt.over
#print axioms proved
end Go.Proofs.YtiehjicadcamiaaGreat.grantsMany
