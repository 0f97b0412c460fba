/- A part of the evaluator of the model's code and of its soundness, for any program. No condition. -/
import Derived.Test.YtfecnejgdafbcaaGreatDoorPiZE
namespace Go.Proofs.YtfecnejgdafbcaaGreatDoor.Pi
set_option linter.all false
variable [Gl]
section
/-! The drawn order. -/
theorem length_le_of_lt : ∀ (n : Nat) (l : List Nat), l.Nodup → (∀ x ∈ l, x < n) → l.length ≤ n
  | 0, l, _, h => by
    cases l with
    | nil => simp
    | cons a l => have := h a (by simp); omega
  | n + 1, l, hn, h => by
    by_cases hm : n ∈ l
    · have h1 := length_le_of_lt n (l.erase n) (hn.erase n) (fun x hx => by
        have h2 := (hn.mem_erase_iff).1 hx
        have := h x h2.2
        have := h2.1
        omega)
      rw [List.length_erase_of_mem hm] at h1
      omega
    · have := length_le_of_lt n l hn (fun x hx => by
        have h2 := h x hx
        have : x ≠ n := by intro e; subst e; exact hm hx
        omega)
      omega
theorem le_length_of_mem : ∀ (n : Nat) (l : List Nat), (∀ x, x < n → x ∈ l) → n ≤ l.length
  | 0, l, _ => by omega
  | n + 1, l, h => by
    have h1 := le_length_of_mem n (l.erase n) (fun x hx => (List.mem_erase_of_ne (by omega)).2 (h x (by omega)))
    have hm := h n (by omega)
    rw [List.length_erase_of_mem hm] at h1
    have : 0 < l.length := List.length_pos_of_mem hm
    omega
def LinPre (ops : Array Oper) (l : List Nat) : Prop := ∀ p i q, l = p ++ i :: q → ∀ o, ops[i]? = some o → ∀ e ∈ o.after.toList, Region.binds .any e = true → e.on ∈ p
theorem linPre_snoc {ops : Array Oper} {l : List Nat} {i : Nat} (hl : LinPre ops l) (hi : ∀ o, ops[i]? = some o → ∀ e ∈ o.after.toList, Region.binds .any e = true → e.on ∈ l) : LinPre ops (l ++ [i]) := by
  intro p j q he o ho e hem hb
  rcases List.eq_nil_or_concat q with rfl | ⟨q', z, rfl⟩
  · have := List.append_inj' he (by simp)
    obtain ⟨rfl, h2⟩ := this
    simp only [List.cons.injEq, and_true] at h2
    subst h2
    exact hi o ho e hem hb
  · have he2 : l ++ [i] = (p ++ j :: q') ++ [z] := by rw [he]; simp
    have := List.append_inj' he2 (by simp)
    exact hl p j q' this.1 o ho e hem hb
theorem lin_ok {ops : Array Oper} (hedge : ∀ i o, ops[i]? = some o → ∀ e ∈ o.after.toList, Region.binds .any e = true → e.on < i) :
    ∀ (fuel t : Nat) (listed : Array Bool) (acc : List Nat), fuel + acc.length = ops.size → listed.size = ops.size → (∀ i, i < ops.size → listed[i]? = some (decide (i ∈ acc))) → acc.Nodup → (∀ i ∈ acc, i < ops.size) → LinPre ops acc.reverse →
    (Region.linearise.go .any ops fuel t listed acc).Nodup ∧ (∀ i, i ∈ Region.linearise.go .any ops fuel t listed acc ↔ i < ops.size) ∧ LinPre ops (Region.linearise.go .any ops fuel t listed acc)
  | 0, t, listed, acc, hf, hs, hl, hn, hlt, hp => by
    simp only [Region.linearise.go]
    refine ⟨List.pairwise_reverse.2 (hn.imp fun h => Ne.symm h), fun i => ⟨fun h => hlt i (by simpa using h), fun hi => ?_⟩, hp⟩
    rw [List.mem_reverse]
    by_cases hm : i ∈ acc
    · exact hm
    · have := length_le_of_lt ops.size (i :: acc) (List.nodup_cons.2 ⟨hm, hn⟩) (fun x hx => by
        simp only [List.mem_cons] at hx
        rcases hx with rfl | hx
        · exact hi
        · exact hlt x hx)
      simp only [List.length_cons] at this
      omega
  | fuel + 1, t, listed, acc, hf, hs, hl, hn, hlt, hp => by
    simp only [Region.linearise.go]
    generalize hrs : (List.range ops.size).filter (fun i => !listed.getD i true && ((ops[i]?).map (fun o => o.after.all fun e => !Region.binds .any e || listed.getD e.on false)).getD false) = rs
    have mem : ∀ i, i ∈ rs ↔ i < ops.size ∧ i ∉ acc ∧ ∀ o, ops[i]? = some o → ∀ e ∈ o.after.toList, Region.binds .any e = true → e.on ∈ acc := by
      intro i
      rw [← hrs, List.mem_filter, List.mem_range]
      constructor
      · rintro ⟨h1, h2⟩
        simp only [Bool.and_eq_true, Bool.not_eq_true'] at h2
        have hli := hl i h1
        refine ⟨h1, ?_, ?_⟩
        · intro hm
          rw [Array.getD_eq_getD_getElem?, hli] at h2
          simp [hm] at h2
        · intro o ho e he hb
          rw [ho] at h2
          simp only [Option.map_some, Option.getD_some, Array.all_eq_true_iff_forall_mem] at h2
          have := h2.2 e (Array.mem_toList_iff.1 he)
          rw [hb] at this
          simp only [Bool.not_true, Bool.false_or] at this
          have hlt2 := hedge i o ho e he hb
          rw [Array.getD_eq_getD_getElem?, hl e.on (by omega)] at this
          simpa using this
      · rintro ⟨h1, h2, h3⟩
        refine ⟨h1, ?_⟩
        simp only [Bool.and_eq_true, Bool.not_eq_true']
        refine ⟨by rw [Array.getD_eq_getD_getElem?, hl i h1]; simpa using h2, ?_⟩
        rw [Array.getElem?_eq_getElem h1]
        simp only [Option.map_some, Option.getD_some, Array.all_eq_true_iff_forall_mem]
        intro e he
        cases hb : Region.binds .any e with
        | false => rfl
        | true =>
          simp only [Bool.not_true, Bool.false_or]
          have ho := Array.getElem?_eq_getElem h1
          have hlt2 := hedge i _ ho e (Array.mem_toList_iff.2 he) hb
          rw [Array.getD_eq_getD_getElem?, hl e.on (by omega)]
          simpa using h3 _ ho e (Array.mem_toList_iff.2 he) hb
    have hne : rs ≠ [] := by
      intro h0
      have all : ∀ i, i < ops.size → i ∈ acc := by
        intro i
        induction i using Nat.strongRecOn with
        | _ i ih =>
          intro hi
          by_cases hm : i ∈ acc
          · exact hm
          · have : i ∈ rs := (mem i).2 ⟨hi, hm, fun o ho e he hb => ih e.on (hedge i o ho e he hb) (by have := hedge i o ho e he hb; omega)⟩
            rw [h0] at this
            simp at this
      have := le_length_of_mem ops.size acc all
      omega
    have hlen : t % rs.length < rs.length := Nat.mod_lt _ (List.length_pos_iff.2 hne)
    rw [List.getElem?_eq_getElem hlen]
    simp only
    obtain ⟨m1, m2, m3⟩ := (mem _).1 (List.getElem_mem hlen)
    generalize rs[t % rs.length] = i at m1 m2 m3
    refine lin_ok hedge fuel _ _ (i :: acc) (by simp only [List.length_cons]; omega) (by simpa using hs) ?_ (List.nodup_cons.2 ⟨m2, hn⟩) ?_ ?_
    · intro j hj
      rw [Array.getElem?_setIfInBounds]
      by_cases hij : i = j
      · subst hij; rw [if_pos rfl, if_pos (by omega)]; simp
      · rw [if_neg hij, hl j hj]
        simp [Ne.symm hij]
    · intro j hj
      simp only [List.mem_cons] at hj
      rcases hj with rfl | hj
      · exact m1
      · exact hlt j hj
    · rw [List.reverse_cons]
      exact linPre_snoc hp fun o ho e he hb => by rw [List.mem_reverse]; exact m3 o ho e he hb
theorem sched_ok {ops : Array Oper} {mixed : Bool} (hm : (mixed || !Region.departs ops) = true) (hedge : ∀ i o, ops[i]? = some o → ∀ e ∈ o.after.toList, Region.binds .any e = true → e.on < i) (t : Nat) :
    (Region.schedule mixed ops t).Nodup ∧ (∀ i, i ∈ Region.schedule mixed ops t ↔ i < ops.size) ∧ LinPre ops (Region.schedule mixed ops t) := by
  unfold Region.schedule
  rw [if_pos hm]
  unfold Region.linearise
  exact lin_ok hedge ops.size t _ [] (by simp) (by simp) (fun i hi => by simp [hi]) List.nodup_nil (by simp) (by intro p i q h; simp at h)

/-- what is before an operation, in any drawn order -/
theorem bef_in {ops : Array Oper} {ms : List Mk} (hms : ∀ j o, ops.toList[j]? = some o → ∃ m, ms[j]? = some m ∧ MkAt ops.toList ms j o m) {σ : List Nat} (hσ : LinPre ops σ) :
    ∀ (i : Nat) (o : Oper) (m : Mk), ops[i]? = some o → ms[i]? = some m → ∀ p q, σ = p ++ i :: q → ∀ k, bit m.bef k = true → k ∈ p := by
  intro i
  induction i using Nat.strongRecOn with
  | _ i ih =>
    intro o m ho hm p q he k hk
    obtain ⟨m', hm', hat⟩ := hms i o (by simpa using ho)
    rw [hm] at hm'; cases hm'
    rw [hat.2.2.1] at hk
    obtain ⟨e, he1, he2, he3⟩ := edgeBits_get hk
    have hlt := edgesOk_get hat.2.2.2.1 e he1 he2
    have hin := hσ p i q he o ho e he1 he2
    rcases he3 with rfl | ⟨m2, hm2, hk2⟩
    · exact hin
    · obtain ⟨p1, p2, hp⟩ := List.append_of_mem hin
      rw [List.getElem?_take, if_pos hlt] at hm2
      have hi : i < ops.size := (Array.getElem?_eq_some_iff.1 ho).1
      have ho2 := Array.getElem?_eq_getElem (xs := ops) (i := e.on) (by omega)
      have := ih e.on hlt _ m2 ho2 hm2 p1 (p2 ++ i :: q) (by rw [he, hp]; simp) k hk2
      rw [hp]; simp [this]
end
end Go.Proofs.YtfecnejgdafbcaaGreatDoor.Pi
