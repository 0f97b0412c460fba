/- A part of the evaluator of the model's code and of its soundness, for any program. No condition. -/
import Derived.Test.YtfecnejgdafbcaaGreatDoorPiZI
import Derived.RowKit3
namespace Go.Proofs.YtfecnejgdafbcaaGreatDoor.Pi
set_option linter.all false
variable [Gl]
open Go.RowKit
theorem pcall_grown {P : Program} {sh : FuncId → Bool} {F n : Nat} {f : FuncId} (PO : PrimOK P) (e : pcall P sh F n f [] = some (.bool true)) (w : World) (gw : GlW w) : Calls P f #[] w fun e w' => e = .returned (.bool true) ∧ Grown w w' := by
  intro cs
  obtain ⟨e', w', fr, ⟨he, hsz, hk, hos, hout, _, hnf⟩, h⟩ := pcall_true PO e w gw cs
  refine ⟨e', w', fr, ⟨he, ⟨hos, hout, fun i hi => ?_⟩, fun a => ?_, hsz⟩, h⟩
  · rw [hk i hi]
    cases hx : w.heap[i]? with
    | none => trivial
    | some o => cases o <;> first | exact ⟨rfl, rfl, rfl, fun _ _ => rfl⟩ | exact .inr ⟨rfl, rfl⟩ | rfl
  · by_cases hlt : a.block < w.heap.size
    · simp only [World.frozen?, hk _ hlt]
    · have hn : w.heap[a.block]? = none := Array.getElem?_eq_none (by omega)
      simp only [World.frozen?, hn]
      split
      · rename_i arr ty lo hi hc
        rcases hnf _ _ _ _ hc with h0 | ⟨arr0, h0⟩
        · cases h0; simp
        · rw [hn] at h0; cases h0
      · rfl
end Go.Proofs.YtfecnejgdafbcaaGreatDoor.Pi
