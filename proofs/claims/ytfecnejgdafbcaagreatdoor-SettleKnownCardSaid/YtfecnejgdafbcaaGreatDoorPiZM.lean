/- A part of the evaluator of the model's code and of its soundness, for any program. No condition. -/
import Derived.Test.YtfecnejgdafbcaaGreatDoorPiZK
import Derived.WalkKit
import Derived.RowKit3
import Derived.Lib.Bytealg
namespace Go.Proofs.YtfecnejgdafbcaaGreatDoor.Pi
set_option linter.all false
variable [Gl]
open Go.RowKit
/-! Functions that are answered as a whole, by contracts of their own. -/
section
variable {P : Program} {M : Mem} {μ : Mu} {h : Hp} {w : World}
theorem Sim.junk (s : Sim M μ h w) (arr : Array Value) (ty : TypeId) : ∃ M', Sim M' μ h (w.alloc (.cells arr ty)) ∧ Grow M μ w M' μ (w.alloc (.cells arr ty)) :=
  have d := s.data (w' := w.alloc (.cells arr ty)) (arr := arr) (ty := ty) rfl
  ⟨_, d.1, Grow.data (o := .cells arr ty (0, 0)) d.2 rfl rfl rfl rfl (fun a t f e => by cases e; rfl)⟩
theorem store_at (s : Sim M μ h w) {T : TypeId} {id off : Nat} {a : PV} {h' : Hp} (e : evStore P h T (.ptr id off) a = some (.skip h')) {x : Value} (hr : Rep M μ (.ptr id off) x) :
    ∃ b o old, x = .pointer (some ⟨b, o, none⟩) ∧ w.cell? ⟨b, o, none⟩ = some old ∧ w.frozen? ⟨b, o, none⟩ = false := by
  unfold evStore at e
  split at e
  · rename_i n hn
    replace e := bifF e; obtain ⟨hc, e⟩ := e
    simp only at e
    split at e
    · rename_i cs hb
      replace e := bifT e; obtain ⟨hle, e⟩ := e
      have hle := Nat.le_of_ble_eq_true hle
      simp only [Bool.or_eq_false_iff, Bool.not_eq_false'] at hc
      have h0 : 0 < n := by have := hc.1; simpa using this
      cases hr with
      | ptr _ _ _ r hr =>
        obtain ⟨r', hr', hat⟩ := s.blk id _ hb
        rw [hr] at hr'; cases hr'
        obtain ⟨hbase, arr, ty, ho, hsz, h1, h2⟩ := hat
        have hlt : off < arr.size := by omega
        refine ⟨r.b, r.base + off, arr[off], rfl, ?_, ?_⟩
        · rw [cell?_eq (a := ⟨r.b, r.base + off, none⟩) ho rfl, hbase]
          simp [hlt]
        · simp [World.frozen?, ho]
    · cases e
  · cases e
theorem Gl.handle (gl : GlOK M) {g rt b o : Nat} (e : Gl.g g = some [.ifc rt (.agg [.adr b o])]) : M ⟨g, 0, none⟩ = some (.iface rt (.agg #[.pointer (some ⟨b, o, none⟩)])) := by
  obtain ⟨x, h1, _, h3⟩ := gl g _ e
  rw [h1 0 _ rfl]
  have := h3 0 _ rfl
  generalize x 0 = v at this
  cases this with
  | ifc _ _ _ y hy =>
    cases hy with
    | agg _ _ vs hl _ hv =>
      obtain ⟨z, hz⟩ : ∃ z, vs = #[z] := by
        obtain ⟨l⟩ := vs
        match l, hl with
        | [z], _ => exact ⟨z, rfl⟩
      subst hz
      have := hv 0 _ z rfl rfl
      cases this
      rfl
theorem rep_agg1 {c : PV} {μ : Mu} {x : Value} (hr : Rep M μ (.agg [c]) x) : ∃ z, x = .agg #[z] ∧ z.oneCell' = true ∧ Rep M μ c z := by
  cases hr with
  | agg _ _ vs hl h1 hv =>
    obtain ⟨z, hz⟩ : ∃ z, vs = #[z] := by
      obtain ⟨l⟩ := vs
      match l, hl with
      | [z], _ => exact ⟨z, rfl⟩
    subst hz
    exact ⟨z, rfl, h1 0 z rfl, hv 0 _ z rfl rfl⟩
/-- the cells of a world, as data -/
def memOf (w : World) : Mem := fun a => if a.spot = none then w.cell? a else none
theorem glw_of {w : World} (hc : ∀ (g : Nat) (cs : List PV), Gl.g g = some cs → ∀ (j : Nat) (c : PV), cs[j]? = some c → ∃ x, w.cell? ⟨g, j, none⟩ = some x ∧ x.oneCell' = true ∧ Rep (memOf w) mu0 c x) : GlW w := by
  refine ⟨memOf w, fun g cs e => ?_, fun a v e => ?_⟩
  · have H := hc g cs e
    refine ⟨fun j => match w.cell? ⟨g, j, none⟩ with | some x => x | none => .nilIface, fun j c h => ?_, fun j c h => ?_, fun j c h => ?_⟩
    all_goals obtain ⟨x, h1, h2, h3⟩ := H j c h
    · unfold memOf; simp only [if_pos, h1]
    · simp only [h1]; exact h2
    · simp only [h1]; exact h3
  · unfold memOf at e
    by_cases hs : a.spot = none
    · rw [if_pos hs] at e; exact ⟨hs, e⟩
    · rw [if_neg hs] at e; cases e
/-- what a contract hands to the evaluator -/
theorem prim_of {f : FuncId} {vs : List Value} {v : Value} {Q : World → Prop} (hc : Calls P f vs.toArray w fun e w' => e = .returned v ∧ Q w') (cs : List Frame) :
    ∃ w' fr, Q w' ∧ Steps P (lone (Frame.enter P f vs.toArray .normal) cs w) (lone fr cs w') ∧ fr.fn = f ∧ fr.leaving P w' (.returned v) := by
  obtain ⟨e, w', fr, ⟨rfl, hq⟩, h1, h2, h3⟩ := hc cs
  exact ⟨w', fr, hq, h1, h2, h3⟩
theorem bytesLess_irrefl : ∀ l : List UInt8, Op.bytesLess l l = false
  | [] => rfl
  | a :: l => by simp [Op.bytesLess, bytesLess_irrefl l, UInt8.lt_irrefl]
theorem compareBytes_eq : ∀ (a b : List UInt8), (bif Op.bytesLess a b then (-1 : Int) else bif a == b then 0 else 1) = Lib.compareBytes a b
  | [], [] => rfl
  | [], _ :: _ => rfl
  | _ :: _, [] => rfl
  | a :: as, b :: bs => by
    unfold Lib.compareBytes
    have ih := compareBytes_eq as bs
    by_cases h : a < b
    · simp [Op.bytesLess, h]
    · by_cases h2 : b < a
      · have hne : a ≠ b := by intro e; subst e; exact absurd h2 h
        have hb : (a == b) = false := by simpa using hne
        simp [Op.bytesLess, h, h2, hb]
      · have he : a = b := by
          have h3 := UInt8.not_lt.1 h
          have h4 := UInt8.not_lt.1 h2
          exact UInt8.le_antisymm h4 h3
        subst he
        simp only [h, if_false]
        rw [← ih]
        simp [Op.bytesLess, UInt8.lt_irrefl]
end
end Go.Proofs.YtfecnejgdafbcaaGreatDoor.Pi
