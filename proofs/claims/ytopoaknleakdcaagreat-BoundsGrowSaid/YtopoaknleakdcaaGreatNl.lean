/- Plain laws of bounds: Height, Work, Steps and Name are those of the document. No condition. -/
import Derived.Test.YtopoaknleakdcaaGreatNf
import Derived.Test.YtopoaknleakdcaaGreatPs4
namespace Go.Proofs.YtopoaknleakdcaaGreat.bounds
open Go.Proofs.YtopoaknleakdcaaGreat.Sv
/-! Plain laws of bounds. -/
abbrev big : Int := 9223372036854775807
theorem pow_le {b : Int} (hb : 1 ≤ b ∧ b ≤ 16) {k : Nat} (hk : k ≤ 11) : 1 ≤ b * 2 ^ k ∧ b * 2 ^ k ≤ 32768 := by
  have : k = 0 ∨ k = 1 ∨ k = 2 ∨ k = 3 ∨ k = 4 ∨ k = 5 ∨ k = 6 ∨ k = 7 ∨ k = 8 ∨ k = 9 ∨ k = 10 ∨ k = 11 := by omega
  rcases this with rfl | rfl | rfl | rfl | rfl | rfl | rfl | rfl | rfl | rfl | rfl | rfl <;> simp <;> omega
/-- the numbers that count -/
def fine (n : Int) : Bool := decide (0 ≤ n) && decide (n ≤ 1000000000)
theorem right_ok (b : Int) (l : List Int) (hl : l.length < 1000) : F42 (b, l) = some (decide (1 ≤ b) && decide (b ≤ 16) && l.all fine) := by
  unfold F42
  simp only [br_lt, br_gt]
  by_cases h1 : b < 1
  · rw [if_pos h1]; simp [show ¬ (1 : Int) ≤ b by omega]
  rw [if_neg h1]
  by_cases h2 : b > 16
  · rw [if_pos h2]; simp [show ¬ b ≤ 16 by omega]
  rw [if_neg h2]
  simp only [show (1 : Int) ≤ b by omega, show b ≤ 16 by omega, decide_true, Bool.true_and]
  obtain ⟨x, e, hx⟩ := loop_inv (β := Nat × (Int × Bool) × Unit) (fun s : Int × Bool => s.2 = false ∧ ∃ k : Nat, s.1 = k ∧ k ≤ l.length ∧ (l.take k).all fine = true)
    (fun x => (x.1 = 0 ∧ l.all fine = false ∧ x.2.1.2 = false) ∨ (x.1 = 1 ∧ l.all fine = true)) (fun s => (l.length - s.1.toNat)) (s := (0, false))
    (f := (fun s0 => if s0.1 < (nti (llen l)) then (nat s0.1 fun k1 => ix l k1 fun x2 => if x2 < 0 then (some (.dn ((0, ((s0.1, false), ()))))) else if x2 > 1000000000 then (some (.dn ((0, ((s0.1, false), ()))))) else some (.nx (iadd .i64 s0.1 1, s0.2))) else some (.dn ((1, (s0, ())))))) ⟨rfl, 0, rfl, by omega, rfl⟩ (by omega) (by
      rintro ⟨i, c⟩ ⟨hc, k, hi, hk, ha⟩
      simp only at hc hi
      subst hc; subst hi
      simp only [nti, llen]
      by_cases hlt : (k : Int) < (l.length : Int)
      · rw [if_pos hlt, nat_pos (by omega)]
        have hk' : k < l.length := by omega
        rw [ix_val (x := l[k]) (by simp [hk'])]
        by_cases h3 : l[k] < 0
        · rw [if_pos h3]
          refine .inr ⟨_, rfl, .inl ⟨rfl, ?_, rfl⟩⟩
          rw [List.all_eq_false]
          exact ⟨l[k], by simp, by simp [fine]; omega⟩
        rw [if_neg h3]
        by_cases h4 : l[k] > 1000000000
        · rw [if_pos h4]
          refine .inr ⟨_, rfl, .inl ⟨rfl, ?_, rfl⟩⟩
          rw [List.all_eq_false]
          exact ⟨l[k], by simp, by simp [fine]; omega⟩
        rw [if_neg h4]
        refine .inl ⟨_, rfl, ⟨rfl, k + 1, ?_, by omega, ?_⟩, ?_⟩
        · show iadd .i64 (k : Int) 1 = _
          rw [iadd_in (by omega)]; simp
        · rw [List.take_add_one, List.all_append, ha]
          simp [hk', fine]; omega
        · show l.length - (iadd .i64 (k : Int) 1).toNat < _
          rw [iadd_in (by omega)]
          omega
      · rw [if_neg hlt]
        refine .inr ⟨_, rfl, .inr ⟨rfl, ?_⟩⟩
        have : k = l.length := by omega
        subst this
        simpa using ha)
  rw [e, bd_val, br_neq]
  rcases hx with ⟨h3, h4, h5⟩ | ⟨h3, h4⟩
  · rw [if_pos h3, h4, h5]
  · rw [if_neg (by omega), h4]
theorem rright_ok (n : Int) : F39 n = some (fine n) := by
  unfold F39
  rw [br_ge]
  by_cases h : n ≥ 0
  · rw [if_pos h]; simp [fine, ile, show (0 : Int) ≤ n from h]
  · rw [if_neg h]; simp [fine, show ¬ (0 : Int) ≤ n from h]
/-- how many of the first k doublings lie below -/
def cnt (b w : Int) : Nat → Nat
  | 0 => 0
  | k + 1 => cnt b w k + if b * 2 ^ k < w then 1 else 0
theorem cnt_le (b w : Int) : ∀ k, cnt b w k ≤ k
  | 0 => Nat.le_refl _
  | k + 1 => by have := cnt_le b w k; unfold cnt; split <;> omega
theorem cnt_stop {b w : Int} (hb : 1 ≤ b) {k : Nat} (h : ¬ b * 2 ^ k < w) : ∀ d, cnt b w (k + d) = cnt b w k
  | 0 => rfl
  | d + 1 => by
    have ih := cnt_stop hb h d
    show cnt b w (k + d) + (if b * 2 ^ (k + d) < w then 1 else 0) = _
    have : ¬ b * 2 ^ (k + d) < w := by
      have h2 : (2 : Int) ^ (k + d) = 2 ^ k * 2 ^ d := Int.pow_add ..
      have h3 : (1 : Int) ≤ 2 ^ d := by
        have := Int.pow_pos (n := 2) (m := d) (by omega); omega
      have h4 : 0 < b * 2 ^ k := Int.mul_pos (by omega) (Int.pow_pos (by omega))
      rw [h2, ← Int.mul_assoc]
      have := Int.mul_le_mul_of_nonneg_left h3 (Int.le_of_lt h4)
      rw [Int.mul_one] at this
      omega
    rw [if_neg this]; omega
theorem power_ok {b n : Int} (hb : 1 ≤ b ∧ b ≤ 16) (hn : 0 ≤ n ∧ n ≤ 11) : F77 (b, n) = some (b * 2 ^ n.toNat) := by
  unfold F77
  simp only [br_lt]
  obtain ⟨x, e, hx⟩ := loop_inv (β := Nat × (Int × Int) × Unit) (fun s : Int × Int => ∃ k : Nat, s.2 = k ∧ (k : Int) ≤ n ∧ s.1 = b * 2 ^ k)
    (fun x => x.2.1.1 = b * 2 ^ n.toNat) (fun s => (n - s.2).toNat) (s := (b, 0))
    (f := (fun s0 => if s0.2 < n then (some (.nx (imul .i64 2 s0.1, iadd .i64 s0.2 1))) else some (.dn ((0, (s0, ())))))) ⟨0, rfl, by omega, by simp⟩ (by simp only; omega) (by
      rintro ⟨v, i⟩ ⟨k, hi, hk, hv⟩
      simp only at hi hv ⊢
      subst hi
      by_cases hlt : (k : Int) < n
      · rw [if_pos hlt]
        have := pow_le hb (k := k) (by omega)
        refine .inl ⟨_, rfl, ⟨k + 1, ?_, by omega, ?_⟩, ?_⟩
        · show iadd .i64 (k : Int) 1 = _
          rw [iadd_in (by omega)]; simp
        · show imul .i64 2 v = _
          rw [imul_in (by omega), hv, Int.pow_succ]; generalize (2 : Int) ^ k = p; rw [Int.mul_left_comm, Int.mul_comm 2 p]
        · show (n - iadd .i64 (k : Int) 1).toNat < (n - k).toNat
          rw [iadd_in (by omega)]
          omega
      · rw [if_neg hlt]
        refine .inr ⟨_, rfl, ?_⟩
        have : n.toNat = k := by omega
        rw [this]; exact hv)
  rw [e, bd_val, hx]
theorem height_ok {b w : Int} (hb : 1 ≤ b ∧ b ≤ 16) (hw : 0 ≤ w ∧ w ≤ 1000000000) : F14 (b, w) = some (if w = 0 then 0 else (cnt b w 11 : Int) + 1, 0) := by
  unfold F14
  simp only [right_ok b [w] (by simp), bd_val, br_not, br_lt, br_eq]
  have : (decide (1 ≤ b) && decide (b ≤ 16) && [w].all fine) = true := by simp [fine]; omega
  rw [this, br_true]
  by_cases h0 : w = 0
  · rw [if_pos h0, if_pos h0]
  rw [if_neg h0, if_neg h0]
  obtain ⟨x, e, hx⟩ := loop_inv (β := Nat × (Int × Int) × Unit) (fun s : Int × Int => ∃ k : Nat, k ≤ 11 ∧ s.2 = k + 1 ∧ s.1 = b * 2 ^ k ∧ cnt b w k = k)
    (fun x => x.2.1.2 = (cnt b w 11 : Int) + 1) (fun s => (12 - s.2).toNat) (s := (b, 1))
    (f := (fun s1 => if s1.1 < w then (if s1.2 < 12 then some (.nx (ishl .i64 s1.1 1, iadd .i64 s1.2 1)) else some (.dn ((0, (s1, ()))))) else some (.dn ((0, (s1, ())))))) ⟨0, by omega, by simp, by simp, rfl⟩ (by simp only; omega) (by
      rintro ⟨v, i⟩ ⟨k, hk, hi, hv, hc⟩
      simp only at hi hv ⊢
      subst hi
      have hp := pow_le hb hk
      by_cases hlt : v < w
      · rw [if_pos hlt]
        have hc1 : cnt b w (k + 1) = k + 1 := by
          show cnt b w k + _ = _
          rw [if_pos (by rw [← hv]; exact hlt), hc]
        by_cases hk11 : ((k : Int) + 1) < 12
        · rw [if_pos hk11]
          refine .inl ⟨_, rfl, ⟨k + 1, by omega, ?_, ?_, hc1⟩, ?_⟩
          · show iadd .i64 ((k : Int) + 1) 1 = _
            rw [iadd_in (by omega)]; simp
          · show ishl .i64 v 1 = _
            rw [ishl1_in (by omega), hv, Int.pow_succ]; generalize (2 : Int) ^ k = p; rw [Int.mul_left_comm, Int.mul_comm 2 p]
          · show (12 - iadd .i64 ((k : Int) + 1) 1).toNat < _
            rw [iadd_in (by omega)]
            omega
        · rw [if_neg hk11]
          refine .inr ⟨_, rfl, ?_⟩
          have : k = 11 := by omega
          subst this
          show ((11 : Nat) : Int) + 1 = _
          rw [hc]
      · rw [if_neg hlt]
        refine .inr ⟨_, rfl, ?_⟩
        have := cnt_stop (w := w) hb.1 (k := k) (by rw [← hv]; exact hlt) (11 - k)
        rw [show k + (11 - k) = 11 by omega] at this
        show (k : Int) + 1 = _
        rw [this, hc])
  rw [e, bd_val, hx]
theorem rheight_ok {b w : Int} (hb : 1 ≤ b ∧ b ≤ 16) : F40 (b, w) = some (if w = 0 then 0 else (cnt b w 11 : Int) + 1) := by
  unfold F40
  simp only [br_lt, br_eq]
  by_cases h0 : w = 0
  · rw [if_pos h0, if_pos h0]
  rw [if_neg h0, if_neg h0]
  obtain ⟨x, e, hx⟩ := loop_inv (β := Nat × (Int × Int) × Unit) (fun s : Int × Int => ∃ k : Nat, k ≤ 11 ∧ s.2 = k + 1 ∧ s.1 = (cnt b w k : Int) + 1)
    (fun x => x.2.1.1 = (cnt b w 11 : Int) + 1) (fun s => (12 - s.2).toNat) (s := (1, 1))
    (f := (fun s0 => if s0.2 < 12 then (bd (F77 (b, isub .i64 s0.2 1)) fun r1 => if r1 < w then some (.nx (iadd .i64 s0.1 1, iadd .i64 s0.2 1)) else some (.nx (s0.1, iadd .i64 s0.2 1))) else some (.dn ((0, (s0, ())))))) ⟨0, by omega, by simp, rfl⟩ (by simp only; omega) (by
      rintro ⟨v, i⟩ ⟨k, hk, hi, hv⟩
      simp only at hi hv ⊢
      subst hi; subst hv
      have hc := cnt_le b w k
      by_cases hlt : (k : Int) + 1 < 12
      · rw [if_pos hlt, isub_in (by omega), power_ok hb (by omega), bd_val]
        have hk' : ((k : Int) + 1 - 1).toNat = k := by omega
        rw [hk']
        have m1 : (12 - iadd .i64 ((k : Int) + 1) 1).toNat < (12 - ((k : Int) + 1)).toNat := by
          rw [iadd_in (by omega)]
          omega
        have m2 : iadd .i64 ((k : Int) + 1) 1 = ((k + 1 : Nat) : Int) + 1 := by rw [iadd_in (by omega)]; simp
        by_cases hp : b * 2 ^ k < w
        · rw [if_pos hp]
          refine .inl ⟨_, rfl, ⟨k + 1, by omega, m2, ?_⟩, m1⟩
          show iadd .i64 ((cnt b w k : Int) + 1) 1 = ((cnt b w k + if b * 2 ^ k < w then 1 else 0 : Nat) : Int) + 1
          rw [iadd_in (by omega), if_pos hp]; simp
        · rw [if_neg hp]
          refine .inl ⟨_, rfl, ⟨k + 1, by omega, m2, ?_⟩, m1⟩
          show (cnt b w k : Int) + 1 = ((cnt b w k + if b * 2 ^ k < w then 1 else 0 : Nat) : Int) + 1
          rw [if_neg hp]; simp
      · rw [if_neg hlt]
        refine .inr ⟨_, rfl, ?_⟩
        have : k = 11 := by omega
        subst this
        rfl)
  rw [e, bd_val, hx]
/-- are B and the numbers as stated -/
def rightB (b : Int) : Bool := decide (1 ≤ b) && decide (b ≤ 16)
theorem rightB_iff {b : Int} : rightB b = true ↔ 1 ≤ b ∧ b ≤ 16 := by simp [rightB]
theorem fine_iff {n : Int} : fine n = true ↔ 0 ≤ n ∧ n ≤ 1000000000 := by simp [fine]
theorem refB {β : Type} (b : Int) (e : β) (k : Unit → Option β) : (br (ilt b 1) (fun _ => some e) fun _ => br (igt b 16) (fun _ => some e) k) = if rightB b = true then k () else some e := by
  simp only [br_lt, br_gt, rightB_iff]
  by_cases h1 : b < 1
  · rw [if_pos h1, if_neg (by omega)]
  rw [if_neg h1]
  by_cases h2 : b > 16
  · rw [if_pos h2, if_neg (by omega)]
  rw [if_neg h2, if_pos (by omega)]
theorem height_is (b w : Int) : F14 (b, w) = some (if rightB b = true ∧ fine w = true then (if w = 0 then 0 else (cnt b w 11 : Int) + 1, 0) else (0, 7)) := by
  by_cases h : rightB b = true ∧ fine w = true
  · rw [if_pos h, height_ok (rightB_iff.1 h.1) (fine_iff.1 h.2)]
  · rw [if_neg h]
    unfold F14
    have hf : (decide (1 ≤ b) && decide (b ≤ 16) && [w].all fine) = false := by
      have h' : (decide (1 ≤ b) && decide (b ≤ 16) && [w].all fine) = (rightB b && fine w) := by simp [rightB]
      rw [h']
      cases h1 : rightB b <;> cases h2 : fine w <;> simp_all
    simp only [right_ok b [w] (by simp), hf, bd_val, br_not, br_false]
theorem rheight_is (b w : Int) : F16 (b, w) = some (if rightB b = true ∧ fine w = true then (if w = 0 then 0 else (cnt b w 11 : Int) + 1, 0) else (0, 7)) := by
  unfold F16
  simp only [refB, rright_ok, bd_val, br_not]
  cases h1 : rightB b with
  | false => simp
  | true =>
    cases h2 : fine w with
    | false => simp [br_false]
    | true => simp [br_true, rheight_ok (rightB_iff.1 h1), bd_val]
theorem work_is (b w : Int) : F17 (b, w) = F18 (b, w) := by
  unfold F17 F18
  simp only [refB, right_ok b [w] (by simp), rright_ok, bd_val, br_not]
  have hf : (decide (1 ≤ b) && decide (b ≤ 16) && [w].all fine) = (rightB b && fine w) := by simp [rightB]
  rw [hf]
  cases h1 : rightB b with
  | false => simp [br_false]
  | true =>
    cases h2 : fine w with
    | false => simp [br_false]
    | true =>
      simp only [Bool.and_self, br_true, if_true]
      have hb := rightB_iff.1 h1
      have hw := fine_iff.1 h2
      have h3 : (0 : Int) ≤ b * w := Int.mul_nonneg (by omega) (by omega)
      have h4 : b * w ≤ 16 * 1000000000 := Int.mul_le_mul (by omega) (by omega) (by omega) (by omega)
      have h5 : b * (w + 1) = b * w + b := by rw [Int.mul_add, Int.mul_one]
      rw [iadd_in (a := w) (by omega), imul_in (by omega), imul_in (by omega), iadd_in (by omega), h5]
theorem steps_is (b w s : Int) : F15 (b, w, s) = F19 (b, w, s) := by
  unfold F15 F19
  simp only [refB, right_ok b [w, s] (by simp), rright_ok, bd_val, br_not]
  have hf : (decide (1 ≤ b) && decide (b ≤ 16) && [w, s].all fine) = (rightB b && (fine w && fine s)) := by simp [rightB]
  rw [hf]
  cases h1 : rightB b with
  | false => simp [br_false]
  | true =>
    cases h2 : fine w with
    | false => simp [br_false]
    | true =>
      cases h3 : fine s with
      | false => simp [br_false, br_true]
      | true =>
        simp only [Bool.and_self, br_true, if_true, rheight_ok (rightB_iff.1 h1), bd_val]
        rw [height_is, bd_val, if_pos ⟨h1, h2⟩]
theorem name_is (s : Int) : F20 s = F21 s := by
  unfold F20 F21
  simp only [br_lt, br_gt]
  by_cases h1 : s < 1
  · rw [if_pos h1, if_pos h1]
  rw [if_neg h1, if_neg h1]
  by_cases h2 : s > 5
  · rw [if_pos h2, if_pos h2]
  rw [if_neg h2, if_neg h2]
  have : s = 1 ∨ s = 2 ∨ s = 3 ∨ s = 4 ∨ s = 5 := by omega
  rcases this with rfl | rfl | rfl | rfl | rfl <;> rfl
theorem name_ex (s : Int) : ∃ r, F21 s = some r := by
  unfold F21
  simp only [br_lt, br_gt]
  by_cases h1 : s < 1
  · exact ⟨_, if_pos h1⟩
  rw [if_neg h1]
  by_cases h2 : s > 5
  · exact ⟨_, if_pos h2⟩
  rw [if_neg h2]
  have : s = 1 ∨ s = 2 ∨ s = 3 ∨ s = 4 ∨ s = 5 := by omega
  rcases this with rfl | rfl | rfl | rfl | rfl <;> exact ⟨_, rfl⟩
theorem work_ex (b w : Int) : ∃ r, F18 (b, w) = some r := by
  unfold F18
  simp only [refB, rright_ok, bd_val]
  split
  · rw [br_not, br_b]; split <;> exact ⟨_, rfl⟩
  · exact ⟨_, rfl⟩
theorem steps_ex (b w s : Int) : ∃ r, F19 (b, w, s) = some r := by
  unfold F19
  simp only [refB, rright_ok, bd_val]
  split
  · rename_i h
    rw [br_not, br_b]; split
    · rw [br_not, br_b]; split
      · rw [rheight_ok (rightB_iff.1 h)]; exact ⟨_, rfl⟩
      · exact ⟨_, rfl⟩
    · exact ⟨_, rfl⟩
  · exact ⟨_, rfl⟩
theorem seq_self (l : List UInt8) : seq l l = true := by unfold seq; simp
/-- the law -/
theorem numbers_law (b w s : Int) : F5 (b, w, s) = some true := by
  unfold F5
  obtain ⟨r1, h1⟩ := work_ex b w
  obtain ⟨r2, h2⟩ := steps_ex b w s
  obtain ⟨r3, h3⟩ := name_ex s
  rw [height_is, bd_val, rheight_is, bd_val, work_is, h1, bd_val, bd_val]
  simp only [br_ne, if_true]
  rw [steps_is, h2, bd_val, bd_val, name_is, h3, bd_val, bd_val]
  simp only [br_eq, if_true, seq_self, br_true]
  rfl
end Go.Proofs.YtopoaknleakdcaaGreat.bounds
