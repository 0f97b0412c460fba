/- pressureWrites: the law holds: for all arguments the call returns true, and the arguments read as before; no condition. -/
import Derived.Test.YtanppfoapnaeaaaGreatPj5
set_option linter.all false
namespace Go.Proofs.YtanppfoapnaeaaaGreat.Pt
open Go Sv Pl Go.Proofs Go.Proofs.YtanppfoapnaeaaaGreat
open Go.ChangeShapes Go.WideShapes Go.ChangeAt Go.RowKit
set_option maxRecDepth 100000
theorem over:Rows.pressureWritesRow.holds Tryz.pinned (OpenSpec.ofChange Rows.pressureWritesSpec):=
 OpenClaim.holds_of_wide 3 Tryz.f3 rfl rfl rfl rfl rfl rfl rfl ⟨rfl,rfl,rfl,rfl,rfl⟩ rfl rfl rfl rfl rfl (by kernel_rfl) Tryz.func3 xV
  (of_decide_eq_true (by kernel_rfl)) (by unfold Func.isWrapper;first|(rw[if_pos (by decide +kernel)];kernel_rfl)|(rw[if_neg (by decide +kernel)];exact⟨rfl,rfl⟩))
  (λb a H enc _=>o4 b a H enc)
end Go.Proofs.YtanppfoapnaeaaaGreat.Pt
namespace Go.Proofs.YtanppfoapnaeaaaGreat.pressureWrites
theorem proved:Rows.PressureWritesSaid:=Pt.over
#print axioms proved
end Go.Proofs.YtanppfoapnaeaaaGreat.pressureWrites
