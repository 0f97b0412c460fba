/- A part of the evaluator of the model's code and of its soundness, for any program. No condition. -/
import Derived.Test.YtfecnejgdafbcaaGreatDoorPiZH
namespace Go.Proofs.YtfecnejgdafbcaaGreatDoor.Pi
set_option linter.all false
variable [Gl]
/-- A function without parameters that the evaluator brings to an end: what it returns, and what it leaves alone. -/
theorem pcall_ok {P : Program} {sh : FuncId → Bool} {F n : Nat} {f : FuncId} {v : PV} (PO : PrimOK P) (e : pcall P sh F n f [] = some v) (hv : flat v = true) (w : World) (gw : GlW w) :
    Calls P f #[] w fun e w' => (∃ x, e = .returned x ∧ Rep (fun _ => none) mu0 v x) ∧ w.heap.size ≤ w'.heap.size ∧ (∀ b, b < w.heap.size → w'.heap[b]? = w.heap[b]?) ∧ w'.os = w.os ∧ w'.output = w.output ∧ w'.tape = w.tape ∧ ∀ (b : Nat) (arr : Array Value) (ty : TypeId) (f : Nat × Nat), w'.heap[b]? = some (.cells arr ty f) → f = (0, 0) ∨ ∃ arr0, w.heap[b]? = some (.cells arr0 ty f) := by
  intro cs
  unfold pcall at e
  split at e
  · rename_i r u h' hd
    obtain ⟨⟨q, l⟩, hp, rfl⟩ := mapOpt e
    have R := doN_ok (sh := sh) PO (fun rec R => drawn_ok (P := P) (rec := rec) R) F n
    obtain ⟨M0, s0⟩ := gw.sim
    obtain ⟨M', μ', w', fr, s1, g1, st, hfn, x, hx, hl⟩ := R.nrm hd s0 (RepL.nil _ _) cs
    exact ⟨.returned x, w', fr, ⟨⟨x, rfl, flat_rep hv _ _ (pur_ok s1 l _ _ _ _ _ hp hx (fun _ h => h))⟩, g1.size, g1.keeps, g1.os, g1.output, g1.tape, g1.nf⟩, st, hfn, hl⟩
  · cases e
theorem pcall_true {P : Program} {sh : FuncId → Bool} {F n : Nat} {f : FuncId} (PO : PrimOK P) (e : pcall P sh F n f [] = some (.bool true)) (w : World) (gw : GlW w) :
    Calls P f #[] w fun e w' => e = .returned (.bool true) ∧ w.heap.size ≤ w'.heap.size ∧ (∀ b, b < w.heap.size → w'.heap[b]? = w.heap[b]?) ∧ w'.os = w.os ∧ w'.output = w.output ∧ w'.tape = w.tape ∧ ∀ (b : Nat) (arr : Array Value) (ty : TypeId) (f : Nat × Nat), w'.heap[b]? = some (.cells arr ty f) → f = (0, 0) ∨ ∃ arr0, w.heap[b]? = some (.cells arr0 ty f) := by
  intro cs
  obtain ⟨e', w', fr, ⟨⟨x, hx, hr⟩, rest⟩, h⟩ := pcall_ok PO e rfl w gw cs
  refine ⟨e', w', fr, ⟨?_, rest⟩, h⟩
  rw [hx]
  cases hr; rfl
end Go.Proofs.YtfecnejgdafbcaaGreatDoor.Pi
