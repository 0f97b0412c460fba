/- settleTidy: the law holds: for all arguments the call returns true, and the arguments read as before; no condition. -/
import Derived.Test.YtoefnfbpoabinabGreatDoorPj5
set_option linter.all false
open Bool renaming true->zt, false->zf
namespace Go.Proofs.YtoefnfbpoabinabGreatDoor.Pt
open Go Sv Pl Go.Proofs Go.Proofs.YtoefnfbpoabinabGreatDoor
open Go.ChangeShapes Go.WideShapes Go.ChangeAt Go.RowKit
set_option linter.all false
set_option maxRecDepth 100000
theorem over:Rows.settleTidyRow.holds Tryz.pinned (OpenSpec.ofChange Rows.settleTidySpec):=
 OpenClaim.holds_of_wide 4 Tryz.f4 rfl rfl rfl rfl rfl rfl rfl ⟨rfl,rfl,rfl,rfl,rfl⟩ rfl rfl rfl rfl rfl (by kernel_rfl) Tryz.func4 o2'
  (of_decide_eq_true (by kernel_rfl)) (by unfold Func.isWrapper;first|(rw[zy (by decide +kernel)];kernel_rfl)|(rw[zx (by decide +kernel)];exact⟨rfl,rfl⟩))
  (λos a H NV _=>yI os a H NV)
theorem looks:(Tryz.f4.params.toList.all λt=> !Tryz.prog.wantsStandIn t)=zt:=by kernel_rfl
theorem c3 : Tryz.pinned.checked.prog.mainIs = some (true, "39e2e82c1e829ea3c574fc6ad9bcf8416c17e54e017da8f22366397e251c12f3".toList) := by kernel_rfl
theorem c4 : Tryz.prog.funcNamed "bookend/bookendlaw22.SettleTidy" = some 4 := by kernel_rfl
theorem c5:zt=Tryz.prog.looks []:=by kernel_rfl
theorem c6:OpenClaim.wfByText (OpenSpec.ofChange Rows.settleTidySpec) Rows.settleTidyRow=zt:=by kernel_rfl
theorem c9:Rows.settleTidyCard.goes=Rows.settleTidyCard.stood.row.goesBy Tryz.pinned.checked.prog:=by kernel_rfl
theorem c7(f : FuncId)(fn : Func)(hf : Tryz.prog.funcNamed "bookend/bookendlaw22.SettleTidy" = some f)(hfn : Tryz.prog.funcs[f]? = some fn) : true = Tryz.prog.looks [] ∧ ∀ (j : Nat) (t : TypeId), fn.params[j]? = some t → Tryz.prog.wantsStandIn t = false := by
 obtain rfl:f=4:=(Option.some.inj (c4.symm.trans hf)).symm;obtain rfl:fn=Tryz.f4:=(Option.some.inj (Tryz.func4.symm.trans hfn)).symm
 exact⟨c5,λj t ht=>by
  have hm:t∈Tryz.f4.params.toList:=Array.mem_toList_iff.2 (Array.mem_of_getElem? ht);have:=List.all_eq_true.1 looks t hm;have h2:Tryz.prog.wantsStandIn t=zf:=by simpa using this
  exact h2⟩
theorem card:Rows.SettleTidyCardSaid:=
 ⟨Claim7.tied_new_at .later [.handle, .sentinel] true (Claim7.new_of_sixth over (true, "39e2e82c1e829ea3c574fc6ad9bcf8416c17e54e017da8f22366397e251c12f3") true rfl ⟨rfl, rfl⟩ c3 rfl c7) c6, (fun _ h => by cases h), settleTidy_row_tie, (fun h => by cases h), c9⟩
end Go.Proofs.YtoefnfbpoabinabGreatDoor.Pt
namespace Go.Proofs.YtoefnfbpoabinabGreatDoor.settleTidy
theorem proved:Rows.SettleTidyCardSaid:=Pt.card
#print axioms proved
end Go.Proofs.YtoefnfbpoabinabGreatDoor.settleTidy
