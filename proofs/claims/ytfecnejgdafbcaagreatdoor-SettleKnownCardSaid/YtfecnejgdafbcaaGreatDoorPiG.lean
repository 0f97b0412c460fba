/- A part of the evaluator of the model's code and of its soundness, for any program. No condition. -/
import Derived.Test.YtfecnejgdafbcaaGreatDoorPiF
namespace Go.Proofs.YtfecnejgdafbcaaGreatDoor.Pi
set_option linter.all false
variable [Gl]
section
variable {P : Program} {M : Mem} {μ : Mu} {h : Hp} {w : World}

theorem bifT {α : Type} {c : Bool} {a : α} {x : Option α} (e : (bif c then x else none) = some a) : c = true ∧ x = some a := by
  cases c with
  | false => cases e
  | true => exact ⟨rfl, e⟩
theorem bifF {α : Type} {c : Bool} {a : α} {x : Option α} (e : (bif c then none else x) = some a) : c = false ∧ x = some a := by
  cases c with
  | true => cases e
  | false => exact ⟨rfl, e⟩

theorem store_ok (s : Sim M μ h w) {ty : TypeId} {p v : PV} {x y : Value} (hx : Rep M μ p x) (hy : Rep M μ v y) {r : R}
    (e : evStore P h ty p v = some r) : Says P M μ w ((do Instr.storeAt ty x y; pure .skip : Sem Next).run P w) r := by
  unfold evStore at e
  split at e
  · rename_i n hsz
    obtain ⟨hc, e⟩ := bifF e
    simp at hc
    obtain ⟨hn0, hn⟩ := hc
    split at e
    · rename_i j off
      split at e
      · rename_i cs hb
        obtain ⟨hle, e⟩ := bifT e
        obtain ⟨h', hs, rfl⟩ := mapOpt e
        cases hx with
        | ptr _ _ _ r hr => exact store_box s hr hb hy hsz hn hn0 (by simpa using hle) hs
      · cases e
    · rename_i j i off
      split at e
      · rename_i es ex hb
        split at e
        · rename_i el he
          rw [lget_eq] at he
          obtain ⟨hle, e⟩ := bifT e
          cases hx with
          | ept _ _ _ _ r hr =>
            split at e
            · rename_i cs
              obtain ⟨h', hs, rfl⟩ := mapOpt e
              exact store_row s hr hb he rfl hy hsz hn hn0 (by simpa using hle) hs
            · split at e
              · rename_i c hvc
                obtain ⟨h0, e'⟩ := bifT e
                clear e
                simp at h0
                obtain ⟨rfl, h1⟩ := h0
                have hel' : ∀ c' : PV, (∀ cs, c' ≠ .agg cs) → (∀ cs, c' ≠ .tup cs) → c' = c → c'.cells = lput el.cells 0 v.cells := by
                  rintro c' ha ht rfl
                  rw [hvc]
                  have : c'.cells = [c'] := by cases c' <;> first | rfl | exact absurd rfl (ha _) | exact absurd rfl (ht _)
                  rw [this]
                  obtain ⟨a, ha⟩ : ∃ a, el.cells = [a] := List.length_eq_one_iff.1 h1
                  rw [ha]; rfl
                split at e'
                · cases e'
                · cases e'
                · rename_i ha ht
                  obtain ⟨h', hs, rfl⟩ := mapOpt e'
                  exact store_row s hr hb he (hel' _ (fun cs => ha cs) (fun cs => ht cs) rfl) hy hsz hn hn0 (by simpa using hle) hs
              · cases e
        · cases e
      · cases e
    · cases e
  · cases e

theorem nil_ok (s : Sim M μ h w) {p : PV} {x : Value} (hx : Rep M μ p x) {r : R} (e : evNil h p = some r) :
    Says P M μ w ((match (generalizing := false) x with
    | .pointer none | .nilIface | .nilFunc => runtimePanic .nilDeref
    | .func (.method name) first captured =>
      match (first[0]? : Option Value) with
      | some .nilIface => runtimePanic .nilDeref
      | some (.iface t w) => do
        if (← nilAhead ((← program).types.size + Made.depth) t w name) != some false then
          unsupported (.noEntry "op/nilCheck.the method's receiver behind this interface value is a nil pointer, or cannot be seen to be none, and the arguments act or may panic (ledger 612)")
        pure (.value (.func (.method name) first captured))
      | _ => pure (.value (.func (.method name) first captured))
    | x => pure (.value x) : Sem Next).run P w) r := by
  unfold evNil at e
  split at e <;> (try (cases e; done)) <;> cases e
  · cases hx with | ptr _ _ _ r hr => exact ⟨M, μ, w, _, rfl, s, .refl _ _ _, .ptr _ _ _ r hr⟩
  · cases hx with | ept _ _ _ _ r hr => exact ⟨M, μ, w, _, rfl, s, .refl _ _ _, .ept _ _ _ _ r hr⟩
  · cases hx with | view _ _ b off x hm h1 hr => exact ⟨M, μ, w, _, rfl, s, .refl _ _ _, .view _ _ _ _ x hm h1 hr⟩
  · cases hx with | ifc _ _ _ v hr => exact ⟨M, μ, w, _, rfl, s, .refl _ _ _, .ifc _ _ _ _ hr⟩
  · cases hx with | yl _ _ r hr => exact ⟨M, μ, w, _, rfl, s, .refl _ _ _, .yl _ _ r hr⟩
  · cases hx with | fn _ _ _ _ va vb hf hla hlb ha hb => exact ⟨M, μ, w, _, rfl, s, .refl _ _ _, .fn _ _ _ _ _ _ hf hla hlb ha hb⟩

theorem mapM_run {α β : Type} (g : α → Sem β) (f : α → β) : ∀ (l : List α), (∀ x ∈ l, (g x).run P w = .ok (f x) w) → (l.mapM g).run P w = .ok (l.map f) w
  | [], _ => by simp
  | a :: l, hl => by
    have h1 := hl a (by simp)
    have h2 := mapM_run g f l fun x hx => hl x (by simp [hx])
    simp [List.mapM_cons, h1, h2]
def fsize (P : Program) (f : Field) : Nat := (tsize P f.type).getD 0
theorem sizes_ok {fs : Array Field} (hall : fs.toList.all (fun f => (tsize P f.type).isSome) = true) :
    (fs.mapM (fun f => (do pure (f.offset, ← sizeOf f.type) : Sem (Nat × Nat)))).run P w = .ok (fs.map fun f => (f.offset, fsize P f)) w := by
  rw [Array.mapM_eq_mapM_toList]
  have := mapM_run (P := P) (w := w) (fun f : Field => (do pure (f.offset, ← sizeOf f.type) : Sem (Nat × Nat))) (fun f => (f.offset, fsize P f)) fs.toList ?_
  · simp only [Sem.run_map, this, Result.andThen]
    congr 1
    apply Array.ext'
    simp
  · intro f hf
    have := List.all_eq_true.1 hall f hf
    obtain ⟨n, hn⟩ := Option.isSome_iff_exists.1 this
    simp [tsize_ok hn, fsize, hn]
end
end Go.Proofs.YtfecnejgdafbcaaGreatDoor.Pi
