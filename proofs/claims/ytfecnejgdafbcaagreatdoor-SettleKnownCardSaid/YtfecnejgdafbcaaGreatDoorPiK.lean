/- A part of the evaluator of the model's code and of its soundness, for any program. No condition. -/
import Derived.Test.YtfecnejgdafbcaaGreatDoorPiJ
namespace Go.Proofs.YtfecnejgdafbcaaGreatDoor.Pi
set_option linter.all false
variable [Gl]
section
variable {P : Program} {M : Mem} {μ : Mu} {h : Hp} {w : World}

theorem aggs_of {cs : List PV} {x : Value} (hx : Rep M μ (.agg cs) x) : ∃ vs, x = .agg vs ∧ RepL M μ cs vs.toList ∧ ∀ (i : Nat) (v : Value), vs[i]? = some v → v.oneCell' = true := by
  cases hx with
  | agg _ _ vs hl h1 hr => exact ⟨vs, rfl, ⟨by simpa using hl, fun i c v a b => hr i c v a (by simpa using b)⟩, h1⟩
theorem fieldsOf_eq {t : TypeId} {fs : Array Field} (h : P.underlying t = some (.struct fs)) : P.fieldsOf t = fs := by simp [Program.fieldsOf, h]
theorem strbeq (s1 s2 : ByteArray) : (s1 == s2) = (s1.data.toList == s2.data.toList) := by rw [beq_toListBytes, ByteArray.toList_eq, ByteArray.toList_eq]

/-- '==' of arrays, element by element -/
def eqElems (d : Nat) (e : TypeId) (n : Nat) (xs ys : Array Value) : List Nat → Sem Bool
  | [] => pure true
  | i :: l => do
    let a ← Go.part e xs (i * n)
    let b ← Go.part e ys (i * n)
    let r ← Op.equalIn d e a b
    if (!r) = true then pure false else eqElems d e n xs ys l
theorem run_equalIn_array (d : Nat) (t e : TypeId) (len n : Nat) (xs ys : Array Value) (ht : P.underlying t = some (.array len e)) (hn : tsize P e = some n) :
    (Op.equalIn (d + 1) t (.agg xs) (.agg ys)).run P w = (eqElems d e n xs ys (List.range' 0 len)).run P w := by
  simp only [Op.equalIn, Sem.run_bind, und_ok ht, Result.andThen, tsize_ok hn]
  rw [Std.Legacy.Range.forIn_eq_forIn_range']
  simp only [Std.Legacy.Range.size, Nat.sub_zero, Nat.add_sub_cancel, Nat.div_one]
  generalize List.range' 0 len = l
  induction l generalizing w with
  | nil => simp [eqElems]
  | cons i l ih =>
    simp only [List.forIn_cons, eqElems, Sem.run_bind, Sem.run_ite]
    generalize (Go.part e xs (i * n)).run P w = r1
    cases r1 with
    | ok a w1 =>
      simp only [Result.andThen_ok]
      generalize (Go.part e ys (i * n)).run P w1 = r2
      cases r2 with
      | ok b w2 =>
        simp only [Result.andThen_ok]
        generalize (Op.equalIn d e a b).run P w2 = r3
        cases r3 with
        | ok r w3 =>
          cases r
          · simp only [Result.andThen_ok, Bool.not_false, if_true, Sem.run_pure]
          · simp only [Result.andThen_ok, Bool.not_true, Bool.false_eq_true, if_false, Sem.run_pure]
            exact ih
        | halt x w3 => simp [Result.andThen]
      | halt x w2 => simp [Result.andThen]
    | halt x w1 => simp [Result.andThen]

def OneAll (vs : Array Value) : Prop := ∀ (i : Nat) (v : Value), vs[i]? = some v → v.oneCell' = true
set_option maxHeartbeats 4000000 in
theorem peq_ok : ∀ (d : Nat),
    (∀ (t : TypeId) (p q : PV) (b : Bool) (x y : Value) (D : Nat), peq P d t p q = some b → Rep M μ p x → Rep M μ q y → d ≤ D → (Op.equalIn D t x y).run P w = .ok b w) ∧
    (∀ (fs : List Field) (a c : List PV) (r : Bool) (xs ys : Array Value) (D : Nat), peqs P d fs a c = some r → RepL M μ a xs.toList → RepL M μ c ys.toList →
      OneAll xs → OneAll ys → d ≤ D → (Op.eqFields D xs ys fs).run P w = .ok r w) ∧
    (∀ (n i z : Nat) (e : TypeId) (a c : List PV) (r : Bool) (xs ys : Array Value) (D : Nat), peqa P d n e a c = some r → tsize P e = some z → RepL M μ a (xs.toList.drop (i * z)) → RepL M μ c (ys.toList.drop (i * z)) →
      OneAll xs → OneAll ys → d ≤ D → (eqElems D e z xs ys (List.range' i n)).run P w = .ok r w) := by
  intro d
  induction d with
  | zero => exact ⟨fun t p q b x y D e => by simp [peq] at e, fun fs a c r xs ys D e => by simp [peqs] at e, fun n i z t a c r xs ys D e => by simp [peqa] at e⟩
  | succ d ih =>
    refine ⟨?_, ?_, ?_⟩
    · intro t p q b x y D e hx hy hD
      obtain ⟨D, rfl⟩ : ∃ D', D = D' + 1 := ⟨D - 1, by omega⟩
      have hD' : d ≤ D := by omega
      unfold peq at e
      split at e
      · rename_i hu
        split at e
        · cases e; cases hx; cases hy; simp [Op.equalIn, und_ok hu]
        · cases e
      · rename_i k0 hu
        split at e
        · rename_i k a k' c
          replace e := bifT e; obtain ⟨hk, e⟩ := e
          have : k = k' := by simpa using hk
          subst this
          cases e; cases hx; cases hy; simp [Op.equalIn, und_ok hu]
        · cases e
      · rename_i hu
        split at e
        · cases e
          cases hx with
          | str _ s1 => cases hy with
            | str _ s2 => simp [Op.equalIn, und_ok hu, strbeq]
        · cases e
      · rename_i el hu
        have sm : (tsize P el).isSome = true → ∀ a : Addr, (Op.equalIn (D + 1) t (.pointer (some a)) (.pointer (some a))).run P w = .ok true w := by
          intro hs a
          obtain ⟨z, hz⟩ := Option.isSome_iff_exists.1 hs
          simp [Op.equalIn, und_ok hu, tsize_ok hz, sameAddr]
        split at e <;> first
          | (cases e; done)
          | (rename_i a1 a2
             replace e := bifT e; obtain ⟨hk, e⟩ := e
             rw [Bool.and_eq_true] at hk
             cases e; cases Nat.eq_of_beq_eq_true hk.1
             cases hx with
             | gk _ _ t1 b1 h1 => cases hy with
               | gk _ _ t2 b2 h2 => rw [h1] at h2; cases h2; exact sm hk.2 _)
          | (rename_i a1 a2 a3 a4
             replace e := bifT e; obtain ⟨hk, e⟩ := e
             rw [Bool.and_eq_true, Bool.and_eq_true] at hk
             cases e; cases Nat.eq_of_beq_eq_true hk.1.1; cases Nat.eq_of_beq_eq_true hk.1.2
             cases hx with
             | ptr _ _ _ r1 h1 => cases hy with
               | ptr _ _ _ r2 h2 => rw [h1] at h2; cases h2; exact sm hk.2 _)
          | (cases e; cases hx; cases hy; simp [Op.equalIn, und_ok hu])
      · rename_i el hu
        split at e <;> (try (cases e; done)) <;> (cases e; cases hx <;> cases hy <;> simp [Op.equalIn, und_ok hu])
      · rename_i a1 a2 a3 hu
        split at e <;> (try (cases e; done)) <;> (cases e; cases hx; cases hy; simp [Op.equalIn, und_ok hu])
      · rename_i ms hu
        split at e
        · cases e; cases hx; cases hy; simp [Op.equalIn, und_ok hu]
        · cases e; cases hx; cases hy; simp [Op.equalIn, und_ok hu]
        · cases e; cases hx; cases hy; simp [Op.equalIn, und_ok hu]
        · rename_i t1 a t2 c
          cases hx with
          | ifc _ _ _ v1 hr1 => cases hy with
            | ifc _ _ _ v2 hr2 =>
              cases ht : Nat.beq t1 t2 with
              | false =>
                rw [ht] at e; cases e
                have : t1 ≠ t2 := by intro hc; rw [nbeqT hc] at ht; cases ht
                simp [Op.equalIn, und_ok hu, this]
              | true =>
                rw [ht] at e
                simp only [cond_true] at e
                have : t1 = t2 := by simpa using ht
                subst this
                split at e
                · rename_i i hi
                  replace e := bifT e; obtain ⟨hcmp, e⟩ := e
                  have := ih.1 t1 a c b v1 v2 D e hr1 hr2 hD'
                  simp [Op.equalIn, und_ok hu, info_ok hi, hcmp, this]
                · cases e
        · cases e
      · rename_i fs hu
        split at e
        · rename_i a c
          replace e := bifF e; obtain ⟨hp, e⟩ := e
          obtain ⟨xs, rfl, hra, h1⟩ := aggs_of hx
          obtain ⟨ys, rfl, hrc, h2⟩ := aggs_of hy
          have hu' : P.underlying t = some (.struct (P.fieldsOf t)) := by rw [fieldsOf_eq hu]; exact hu
          rw [run_equalIn_struct w D t xs ys hu' hp, fieldsOf_eq hu]
          exact ih.2.1 fs.toList a c b xs ys D e hra hrc h1 h2 hD'
        · cases e
      · rename_i n el hu
        split at e
        · rename_i a c
          obtain ⟨xs, rfl, hra, h1⟩ := aggs_of hx
          obtain ⟨ys, rfl, hrc, h2⟩ := aggs_of hy
          replace e := bifT e; obtain ⟨hz, e⟩ := e
          obtain ⟨z, hz⟩ := Option.isSome_iff_exists.1 hz
          rw [run_equalIn_array D t el n z xs ys hu hz]
          exact ih.2.2 n 0 z el a c b xs ys D e hz (by simpa using hra) (by simpa using hrc) h1 h2 hD'
        · cases e
      · cases e
    · intro fs a c r xs ys D e hra hrc h1 h2 hD
      have hD' : d ≤ D := by omega
      cases fs with
      | nil => simp [peqs] at e; subst e; simp [Op.eqFields]
      | cons f fs =>
        unfold peqs at e
        cases hn : (f.name == "_") with
        | true =>
          rw [hn] at e
          simp only [cond_true] at e
          have hn' : f.name = "_" := by simpa using hn
          have := ih.2.1 fs a c r xs ys D e hra hrc h1 h2 hD'
          simp [Op.eqFields, hn', this]
        | false =>
          rw [hn] at e
          simp only [cond_false] at e
          have hn' : f.name ≠ "_" := by intro hc; rw [hc] at hn; simp at hn
          split at e
          · rename_i x y hpx hpy
            obtain ⟨vx, hvx, hrx, _⟩ := part_ok (P := P) hpx (M := M) (μ := μ) (vs := xs) (off := f.offset) (hra.drop _) h1 w
            obtain ⟨vy, hvy, hry, _⟩ := part_ok (P := P) hpy (M := M) (μ := μ) (vs := ys) (off := f.offset) (hrc.drop _) h2 w
            split at e
            · rename_i ht
              have k1 := ih.1 f.type x y true vx vy D ht hrx hry hD'
              have k2 := ih.2.1 fs a c r xs ys D e hra hrc h1 h2 hD'
              simp [Op.eqFields, hn', hvx, hvy, k1, k2]
            · rename_i o hne
              cases hq : peq P d f.type x y with
              | none => rw [hq] at e; cases e
              | some b =>
                rw [hq] at e; cases e
                have k1 := ih.1 f.type x y r vx vy D hq hrx hry hD'
                cases r with
                | true => exact absurd hq hne
                | false => simp [Op.eqFields, hn', hvx, hvy, k1]
          · cases e
    · intro n i z el a c r xs ys D e hz hra hrc h1 h2 hD
      have hD' : d ≤ D := by omega
      cases n with
      | zero => simp [peqa] at e; subst e; simp [eqElems]
      | succ n =>
        unfold peqa at e
        rw [hz] at e
        split at e
        · rename_i s x y hs hpx hpy
          cases hs
          obtain ⟨vx, hvx, hrx, _⟩ := part_ok (P := P) hpx (M := M) (μ := μ) (vs := xs) (off := i * z) hra h1 w
          obtain ⟨vy, hvy, hry, _⟩ := part_ok (P := P) hpy (M := M) (μ := μ) (vs := ys) (off := i * z) hrc h2 w
          have hra' : RepL M μ (a.drop z) (xs.toList.drop ((i + 1) * z)) := by have := hra.drop z; rwa [List.drop_drop, ← Nat.succ_mul] at this
          have hrc' : RepL M μ (c.drop z) (ys.toList.drop ((i + 1) * z)) := by have := hrc.drop z; rwa [List.drop_drop, ← Nat.succ_mul] at this
          rw [List.range'_succ]
          split at e
          · rename_i ht
            have k1 := ih.1 el x y true vx vy D ht hrx hry hD'
            have k2 := ih.2.2 n (i + 1) z el _ _ r xs ys D e hz hra' hrc' h1 h2 hD'
            simp [eqElems, hvx, hvy, k1, k2]
          · rename_i o hne
            cases hq : peq P d el x y with
            | none => rw [hq] at e; cases e
            | some b =>
              rw [hq] at e; cases e
              have k1 := ih.1 el x y r vx vy D hq hrx hry hD'
              cases r with
              | true => exact absurd hq hne
              | false => simp [eqElems, hvx, hvy, k1]
        · cases e
end
end Go.Proofs.YtfecnejgdafbcaaGreatDoor.Pi
