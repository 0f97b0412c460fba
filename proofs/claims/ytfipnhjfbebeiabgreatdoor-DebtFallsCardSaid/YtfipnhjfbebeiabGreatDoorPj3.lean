/- debtFalls: the law holds: for all arguments the call returns true, and the arguments read as before; no condition. -/
import Derived.Test.YtfipnhjfbebeiabGreatDoorPj5
set_option linter.all false
namespace Go.Proofs.YtfipnhjfbebeiabGreatDoor.Pt
open Go Sv Pl Go.Proofs Go.Proofs.YtfipnhjfbebeiabGreatDoor
open Go.ChangeShapes Go.WideShapes Go.ChangeAt Go.RowKit
set_option linter.all false
set_option maxRecDepth 100000
theorem over:Rows.debtFallsRow.holds Tryz.pinned (OpenSpec.ofChange Rows.debtFallsSpec) :=
 OpenClaim.holds_of_wide 3 Tryz.f3 rfl rfl rfl rfl rfl rfl rfl ⟨rfl,rfl,rfl,rfl,rfl⟩ rfl rfl rfl rfl rfl (by kernel_rfl) Tryz.func3 o2'
  (of_decide_eq_true (by kernel_rfl)) (by unfold Func.isWrapper;first | (rw [if_pos (by decide +kernel)];kernel_rfl) | (rw [if_neg (by decide +kernel)];exact ⟨rfl,rfl⟩))
  (λos a H enc _=>sv os a H enc)
theorem looks:(Tryz.f3.params.toList.all λt => !Tryz.prog.wantsStandIn t)=true:=by kernel_rfl
theorem c3 : Tryz.pinned.checked.prog.mainIs = some (true, "410e4ad9fc22c68d59a4cd81e9c7f79f704c04dd04fac0f02c1028221344bf67".toList) := by kernel_rfl
theorem c4 : Tryz.prog.funcNamed "bookend/bookendlaw18.DebtFalls" = some 3 := by kernel_rfl
theorem c5:true=Tryz.prog.looks []:=by kernel_rfl
theorem c6:OpenClaim.wfByText (OpenSpec.ofChange Rows.debtFallsSpec) Rows.debtFallsRow=true:=by kernel_rfl
theorem c9:Rows.debtFallsCard.goes=Rows.debtFallsCard.stood.row.goesBy Tryz.pinned.checked.prog:=by kernel_rfl
theorem c7 (f : FuncId) (fn : Func) (hf : Tryz.prog.funcNamed "bookend/bookendlaw18.DebtFalls" = some f) (hfn : Tryz.prog.funcs[f]? = some fn) : true = Tryz.prog.looks [] ∧ ∀ (j : Nat) (t : TypeId), fn.params[j]? = some t → Tryz.prog.wantsStandIn t = false := by
 obtain rfl:f=3:=(Option.some.inj (c4.symm.trans hf)).symm;obtain rfl:fn=Tryz.f3:=(Option.some.inj (Tryz.func3.symm.trans hfn)).symm
 exact ⟨c5,λj t ht=>by
  have hm:t∈Tryz.f3.params.toList:=Array.mem_toList_iff.2 (Array.mem_of_getElem? ht);have:=List.all_eq_true.1 looks t hm;have h2:Tryz.prog.wantsStandIn t=false:=by simpa using this
  exact h2⟩
theorem card:Rows.DebtFallsCardSaid :=
 ⟨Claim7.tied_new_at .later [.handle, .sentinel] true (Claim7.new_of_sixth over (true, "410e4ad9fc22c68d59a4cd81e9c7f79f704c04dd04fac0f02c1028221344bf67") true rfl ⟨rfl, rfl⟩ c3 rfl c7) c6, (fun _ h => by cases h), debtFalls_row_tie, (fun h => by cases h), c9⟩
end Go.Proofs.YtfipnhjfbebeiabGreatDoor.Pt
namespace Go.Proofs.YtfipnhjfbebeiabGreatDoor.debtFalls
theorem proved:Rows.DebtFallsCardSaid:=Pt.card
#print axioms proved
end Go.Proofs.YtfipnhjfbebeiabGreatDoor.debtFalls
