/- settleWholes: the law holds: for all arguments the call returns true, and the arguments read as before; no condition. -/
import Derived.Test.YtoefnfbpoabinaaGreatDoorPj5
set_option linter.all false
open Bool renaming true->zt, false->zf
namespace Go.Proofs.YtoefnfbpoabinaaGreatDoor.Pt
open Go Sv Pl Go.Proofs Go.Proofs.YtoefnfbpoabinaaGreatDoor
open Go.ChangeShapes Go.WideShapes Go.ChangeAt Go.RowKit
set_option linter.all false
set_option maxRecDepth 100000
theorem over:Rows.settleWholesRow.holds Tryz.pinned (OpenSpec.ofChange Rows.settleWholesSpec):=
 OpenClaim.holds_of_wide 3 Tryz.f3 rfl rfl rfl rfl rfl rfl rfl ⟨rfl,rfl,rfl,rfl,rfl⟩ rfl rfl rfl rfl rfl (by kernel_rfl) Tryz.func3 o2'
  (of_decide_eq_true (by kernel_rfl)) (by unfold Func.isWrapper;first|(rw[zy (by decide +kernel)];kernel_rfl)|(rw[zx (by decide +kernel)];exact⟨rfl,rfl⟩))
  (λos a H NV _=>vY os a H NV)
theorem looks:(Tryz.f3.params.toList.all λt=> !Tryz.prog.wantsStandIn t)=zt:=by kernel_rfl
theorem c3 : Tryz.pinned.checked.prog.mainIs = some (true, "fa695c7738113873bbefe053482f2e0fd8dc2368312aa9ad4feb857289f4ce80".toList) := by kernel_rfl
theorem c4 : Tryz.prog.funcNamed "bookend/bookendlaw22.SettleWholes" = some 3 := by kernel_rfl
theorem c5:zt=Tryz.prog.looks []:=by kernel_rfl
theorem c6:OpenClaim.wfByText (OpenSpec.ofChange Rows.settleWholesSpec) Rows.settleWholesRow=zt:=by kernel_rfl
theorem c9:Rows.settleWholesCard.goes=Rows.settleWholesCard.stood.row.goesBy Tryz.pinned.checked.prog:=by kernel_rfl
theorem c7(f : FuncId)(fn : Func)(hf : Tryz.prog.funcNamed "bookend/bookendlaw22.SettleWholes" = some f)(hfn : Tryz.prog.funcs[f]? = some fn) : true = Tryz.prog.looks [] ∧ ∀ (j : Nat) (t : TypeId), fn.params[j]? = some t → Tryz.prog.wantsStandIn t = false := by
 obtain rfl:f=3:=(Option.some.inj (c4.symm.trans hf)).symm;obtain rfl:fn=Tryz.f3:=(Option.some.inj (Tryz.func3.symm.trans hfn)).symm
 exact⟨c5,λj t ht=>by
  have hm:t∈Tryz.f3.params.toList:=Array.mem_toList_iff.2 (Array.mem_of_getElem? ht);have:=List.all_eq_true.1 looks t hm;have h2:Tryz.prog.wantsStandIn t=zf:=by simpa using this
  exact h2⟩
theorem card:Rows.SettleWholesCardSaid:=
 ⟨Claim7.tied_new_at .later [.handle, .sentinel] true (Claim7.new_of_sixth over (true, "fa695c7738113873bbefe053482f2e0fd8dc2368312aa9ad4feb857289f4ce80") true rfl ⟨rfl, rfl⟩ c3 rfl c7) c6, (fun _ h => by cases h), settleWholes_row_tie, (fun h => by cases h), c9⟩
end Go.Proofs.YtoefnfbpoabinaaGreatDoor.Pt
namespace Go.Proofs.YtoefnfbpoabinaaGreatDoor.settleWholes
theorem proved:Rows.SettleWholesCardSaid:=Pt.card
#print axioms proved
end Go.Proofs.YtoefnfbpoabinaaGreatDoor.settleWholes
