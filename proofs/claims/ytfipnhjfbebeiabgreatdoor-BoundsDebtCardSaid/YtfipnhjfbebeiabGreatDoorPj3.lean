/- boundsDebt: the law holds: for all arguments the call returns true, and the arguments read as before; no condition. -/
import Derived.Test.YtfipnhjfbebeiabGreatDoorPj5
set_option linter.all false
namespace Go.Proofs.YtfipnhjfbebeiabGreatDoor.Pt
open Go Sv Pl Go.Proofs Go.Proofs.YtfipnhjfbebeiabGreatDoor
open Go.ChangeShapes Go.WideShapes Go.ChangeAt Go.RowKit
set_option linter.all false
set_option maxRecDepth 100000
theorem over:Rows.boundsDebtRow.holds Tryz.pinned (OpenSpec.ofChange Rows.boundsDebtSpec) :=
 OpenClaim.holds_of_wide 4 Tryz.f4 rfl rfl rfl rfl rfl rfl rfl ⟨rfl,rfl,rfl,rfl,rfl⟩ rfl rfl rfl rfl rfl (by kernel_rfl) Tryz.func4 o2'
  (of_decide_eq_true (by kernel_rfl)) (by unfold Func.isWrapper;first | (rw [if_pos (by decide +kernel)];kernel_rfl) | (rw [if_neg (by decide +kernel)];exact ⟨rfl,rfl⟩))
  (λos a H enc _=>sy os a H enc)
theorem looks:(Tryz.f4.params.toList.all λt => !Tryz.prog.wantsStandIn t)=true:=by kernel_rfl
theorem c3 : Tryz.pinned.checked.prog.mainIs = some (true, "410e4ad9fc22c68d59a4cd81e9c7f79f704c04dd04fac0f02c1028221344bf67".toList) := by kernel_rfl
theorem c4 : Tryz.prog.funcNamed "bookend/bookendlaw34.BoundsDebt" = some 4 := by kernel_rfl
theorem c5:true=Tryz.prog.looks []:=by kernel_rfl
theorem c6:OpenClaim.wfByText (OpenSpec.ofChange Rows.boundsDebtSpec) Rows.boundsDebtRow=true:=by kernel_rfl
theorem c9:Rows.boundsDebtCard.goes=Rows.boundsDebtCard.stood.row.goesBy Tryz.pinned.checked.prog:=by kernel_rfl
theorem c7 (f : FuncId) (fn : Func) (hf : Tryz.prog.funcNamed "bookend/bookendlaw34.BoundsDebt" = some f) (hfn : Tryz.prog.funcs[f]? = some fn) : true = Tryz.prog.looks [] ∧ ∀ (j : Nat) (t : TypeId), fn.params[j]? = some t → Tryz.prog.wantsStandIn t = false := by
 obtain rfl:f=4:=(Option.some.inj (c4.symm.trans hf)).symm;obtain rfl:fn=Tryz.f4:=(Option.some.inj (Tryz.func4.symm.trans hfn)).symm
 exact ⟨c5,λj t ht=>by
  have hm:t∈Tryz.f4.params.toList:=Array.mem_toList_iff.2 (Array.mem_of_getElem? ht);have:=List.all_eq_true.1 looks t hm;have h2:Tryz.prog.wantsStandIn t=false:=by simpa using this
  exact h2⟩
theorem card:Rows.BoundsDebtCardSaid :=
 ⟨Claim7.tied_new_at .later [.handle, .sentinel] true (Claim7.new_of_sixth over (true, "410e4ad9fc22c68d59a4cd81e9c7f79f704c04dd04fac0f02c1028221344bf67") true rfl ⟨rfl, rfl⟩ c3 rfl c7) c6, (fun _ h => by cases h), boundsDebt_row_tie, (fun h => by cases h), c9⟩
end Go.Proofs.YtfipnhjfbebeiabGreatDoor.Pt
namespace Go.Proofs.YtfipnhjfbebeiabGreatDoor.boundsDebt
theorem proved:Rows.BoundsDebtCardSaid:=Pt.card
#print axioms proved
end Go.Proofs.YtfipnhjfbebeiabGreatDoor.boundsDebt
