/- debtSettles: the law holds: for all arguments the call returns true, and the arguments read as before; no condition. -/
import Derived.Test.YtfipnhjfbebeiaaGreatDoorPj5
set_option linter.all false
namespace Go.Proofs.YtfipnhjfbebeiaaGreatDoor.Pt
open Go Sv Pl Go.Proofs Go.Proofs.YtfipnhjfbebeiaaGreatDoor
open Go.ChangeShapes Go.WideShapes Go.ChangeAt Go.RowKit
set_option linter.all false
set_option maxRecDepth 100000
theorem over:Rows.debtSettlesRow.holds Tryz.pinned (OpenSpec.ofChange Rows.debtSettlesSpec) :=
 OpenClaim.holds_of_wide 4 Tryz.f4 rfl rfl rfl rfl rfl rfl rfl ⟨rfl,rfl,rfl,rfl,rfl⟩ rfl rfl rfl rfl rfl (by kernel_rfl) Tryz.func4 o2'
  (of_decide_eq_true (by kernel_rfl)) (by unfold Func.isWrapper;first | (rw [if_pos (by decide +kernel)];kernel_rfl) | (rw [if_neg (by decide +kernel)];exact ⟨rfl,rfl⟩))
  (λos a H enc _=>sf os a H enc)
theorem looks:(Tryz.f4.params.toList.all λt => !Tryz.prog.wantsStandIn t)=true:=by kernel_rfl
theorem c3 : Tryz.pinned.checked.prog.mainIs = some (true, "bed078746766a3e7a071d6367d09d270ec5ea6aa973d1efc45beebcd734820bf".toList) := by kernel_rfl
theorem c4 : Tryz.prog.funcNamed "bookend/bookendlaw18.DebtSettles" = some 4 := by kernel_rfl
theorem c5:true=Tryz.prog.looks []:=by kernel_rfl
theorem c6:OpenClaim.wfByText (OpenSpec.ofChange Rows.debtSettlesSpec) Rows.debtSettlesRow=true:=by kernel_rfl
theorem c9:Rows.debtSettlesCard.goes=Rows.debtSettlesCard.stood.row.goesBy Tryz.pinned.checked.prog:=by kernel_rfl
theorem c7 (f : FuncId) (fn : Func) (hf : Tryz.prog.funcNamed "bookend/bookendlaw18.DebtSettles" = some f) (hfn : Tryz.prog.funcs[f]? = some fn) : true = Tryz.prog.looks [] ∧ ∀ (j : Nat) (t : TypeId), fn.params[j]? = some t → Tryz.prog.wantsStandIn t = false := by
 obtain rfl:f=4:=(Option.some.inj (c4.symm.trans hf)).symm;obtain rfl:fn=Tryz.f4:=(Option.some.inj (Tryz.func4.symm.trans hfn)).symm
 exact ⟨c5,λj t ht=>by
  have hm:t∈Tryz.f4.params.toList:=Array.mem_toList_iff.2 (Array.mem_of_getElem? ht);have:=List.all_eq_true.1 looks t hm;have h2:Tryz.prog.wantsStandIn t=false:=by simpa using this
  exact h2⟩
theorem card:Rows.DebtSettlesCardSaid :=
 ⟨Claim7.tied_new_at .later [.handle, .sentinel] true (Claim7.new_of_sixth over (true, "bed078746766a3e7a071d6367d09d270ec5ea6aa973d1efc45beebcd734820bf") true rfl ⟨rfl, rfl⟩ c3 rfl c7) c6, (fun _ h => by cases h), debtSettles_row_tie, (fun h => by cases h), c9⟩
end Go.Proofs.YtfipnhjfbebeiaaGreatDoor.Pt
namespace Go.Proofs.YtfipnhjfbebeiaaGreatDoor.debtSettles
theorem proved:Rows.DebtSettlesCardSaid:=Pt.card
#print axioms proved
end Go.Proofs.YtfipnhjfbebeiaaGreatDoor.debtSettles
