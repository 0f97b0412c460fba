/- Plain laws of bounds: how heights and steps grow. No condition. -/
import Derived.Test.YtopoaknleakdcaaGreatNh
import Derived.Test.YtopoaknleakdcaaGreatNl
namespace Go.Proofs.YtopoaknleakdcaaGreat.bounds
open Go.Proofs.YtopoaknleakdcaaGreat.Sv
/-! Plain laws of bounds: growth. -/
def hv (b w : Int) : Int := if w = 0 then 0 else (cnt b w 11 : Int) + 1
theorem height_hv (b w : Int) : F14 (b, w) = some (if rightB b = true ∧ fine w = true then (hv b w, 0) else (0, 7)) := height_is b w
theorem cnt_mono (b : Int) {w m : Int} (h : w ≤ m) : ∀ k, cnt b w k ≤ cnt b m k
  | 0 => Nat.le_refl _
  | k + 1 => by
    have := cnt_mono b h k
    show cnt b w k + (if b * 2 ^ k < w then 1 else 0) ≤ cnt b m k + (if b * 2 ^ k < m then 1 else 0)
    split <;> split <;> omega
theorem cnt_anti {b c : Int} (w : Int) (h : b ≤ c) : ∀ k, cnt c w k ≤ cnt b w k
  | 0 => Nat.le_refl _
  | k + 1 => by
    have := cnt_anti w h k
    show cnt c w k + (if c * 2 ^ k < w then 1 else 0) ≤ cnt b w k + (if b * 2 ^ k < w then 1 else 0)
    have h2 : b * 2 ^ k ≤ c * 2 ^ k := Int.mul_le_mul_of_nonneg_right h (Int.le_of_lt (Int.pow_pos (by omega)))
    split <;> split <;> omega
theorem cnt_double (b w : Int) : ∀ k, cnt b (2 * w) (k + 1) = (if b < 2 * w then 1 else 0) + cnt b w k
  | 0 => by
    show 0 + (if b * 2 ^ 0 < 2 * w then 1 else 0) = _
    simp [cnt]
  | k + 1 => by
    have ih := cnt_double b w k
    show cnt b (2 * w) (k + 1) + (if b * 2 ^ (k + 1) < 2 * w then 1 else 0) = _ + (cnt b w k + (if b * 2 ^ k < w then 1 else 0))
    rw [ih]
    have h2 : b * 2 ^ (k + 1) = 2 * (b * 2 ^ k) := by
      rw [Int.pow_succ, Int.mul_comm _ 2, Int.mul_left_comm]
    rw [h2]
    by_cases h : b * 2 ^ k < w
    · rw [if_pos h, if_pos (show 2 * (b * 2 ^ k) < 2 * w by omega)]; omega
    · rw [if_neg h, if_neg (show ¬ 2 * (b * 2 ^ k) < 2 * w by omega)]; omega
theorem hv_bd (b w : Int) : 0 ≤ hv b w ∧ hv b w ≤ 12 := by
  have := cnt_le b w 11
  unfold hv; split <;> omega
theorem hv_mono (b : Int) {w m : Int} (hw : 0 ≤ w) (h : w ≤ m) : hv b w ≤ hv b m := by
  have := cnt_mono b h 11
  unfold hv; split <;> split <;> omega
theorem hv_anti {b c : Int} (w : Int) (h : b ≤ c) : hv c w ≤ hv b w := by
  have := cnt_anti w h 11
  unfold hv; split <;> omega
theorem hv_double (b : Int) {w : Int} (h : 0 < w) : hv b (2 * w) ≤ hv b w + 1 := by
  have h1 := cnt_double b w 10
  have h2 : cnt b w 10 ≤ cnt b w 11 := by show _ ≤ cnt b w 10 + _; omega
  unfold hv
  rw [if_neg (by omega), if_neg (by omega), h1]
  split <;> omega
/-- how many levels are left when the first is -/
def gv (b w : Int) : Int := imx (hv b w - 1) 0
theorem gv_bd (b w : Int) : 0 ≤ gv b w ∧ gv b w ≤ 11 := by
  have := hv_bd b w
  unfold gv imx; split <;> omega
theorem gv_mono (b : Int) {w m : Int} (hw : 0 ≤ w) (h : w ≤ m) : gv b w ≤ gv b m := by
  have := hv_mono b hw h
  unfold gv imx; split <;> split <;> omega
def sv (b w s : Int) : Int := (2 * b + 1) * s + 5 * w * gv b w
theorem steps_val {b w s : Int} (hb : rightB b = true) (hw : fine w = true) (hs : fine s = true) (h9 : s ≤ 10) : F15 (b, w, s) = some (sv b w s, 0) := by
  unfold F15
  have hf : (decide (1 ≤ b) && decide (b ≤ 16) && [w, s].all fine) = true := by
    have h1 : (decide (1 ≤ b) && decide (b ≤ 16)) = true := hb
    simp only [List.all_cons, List.all_nil, hw, hs, Bool.and_true]; exact h1
  simp only [right_ok b [w, s] (by simp), hf, bd_val, br_not, br_true]
  rw [height_hv, bd_val, if_pos ⟨hb, hw⟩]
  have hb' := rightB_iff.1 hb
  have hw' := fine_iff.1 hw
  have hs' := fine_iff.1 hs
  have h1 := hv_bd b w
  have h2 := gv_bd b w
  have h3 : isub .i64 (hv b w) 1 = hv b w - 1 := isub_in (by omega)
  have h4 : imx (hv b w - 1) 0 = gv b w := rfl
  have h5 : (0 : Int) ≤ 5 * w * gv b w := Int.mul_nonneg (by omega) h2.1
  have h6 : 5 * w * gv b w ≤ 5000000000 * 11 := Int.mul_le_mul (by omega) h2.2 h2.1 (by omega)
  have h7 : (0 : Int) ≤ (2 * b + 1) * s := Int.mul_nonneg (by omega) (by omega)
  have h8 : (2 * b + 1) * s ≤ 33 * 10 := Int.mul_le_mul (by omega) (by omega) (by omega) (by omega)
  simp only [h3, h4]
  rw [imul_in (a := 2) (by omega), iadd_in (a := 2 * b) (by omega), imul_in (a := 2 * b + 1) (by omega), imul_in (a := 5) (by omega), imul_in (a := 5 * w) (by omega), iadd_in (by omega)]
  rfl
theorem steps_bad {b w s : Int} (h : ¬ (rightB b = true ∧ fine w = true)) : F15 (b, w, s) = some (0, 7) := by
  unfold F15
  have hf : (decide (1 ≤ b) && decide (b ≤ 16) && [w, s].all fine) = false := by
    have h' : (decide (1 ≤ b) && decide (b ≤ 16) && [w, s].all fine) = (rightB b && (fine w && fine s)) := by simp [rightB]
    rw [h']
    cases h1 : rightB b <;> cases h2 : fine w <;> simp_all
  simp only [right_ok b [w, s] (by simp), hf, bd_val, br_not, br_false]
theorem jn_nx {α β γ δ : Type} {f : α → Option (LR δ γ)} {s : α} {x : δ} (h : f s = some (.nx x)) (k : δ → Option β) (k2 : γ → Option β) : jn f s k k2 = k x := by unfold jn; rw [h]
theorem tail_ok (b w m : Int) : (bd (F15 ((b, (w, 3)))) fun r14 => bd (F15 ((b, (m, 3)))) fun r15 => bd (F15 ((b, (w, 4)))) fun r16 => br (ine r14.2 0) (fun _ => br (ieq r14.1 0) (fun _ => bd (F8 ()) fun r17 => some r17) fun _ => some false) fun _ => br (ieq r16.2 0) (fun _ => br (ieq (isub .i64 r16.1 r14.1) (iadd .i64 (imul .i64 2 b) 1)) (fun _ => br (ine r15.2 0) (fun _ => bd (F8 ()) fun r18 => some r18) fun _ => br (igt w m) (fun _ => bd (F8 ()) fun r19 => some r19) fun _ => br (ile r14.1 r15.1) (fun _ => bd (F8 ()) fun r20 => some r20) fun _ => some false) fun _ => some false) fun _ => some false) = some true := by
  have f8 : F8 () = some true := rfl
  have ex : ∀ n : Int, ∃ r, F15 (b, n, 3) = some r := fun n => by rw [steps_is]; exact steps_ex b n 3
  by_cases h : rightB b = true ∧ fine w = true
  · obtain ⟨hb, hw⟩ := h
    obtain ⟨r1, hr1⟩ := ex m
    have hb' := rightB_iff.1 hb
    have hw' := fine_iff.1 hw
    rw [steps_val hb hw (by decide) (by omega), bd_val, hr1, bd_val, steps_val hb hw (by decide) (by omega), bd_val]
    simp only [br_ne, br_eq, br_gt, br_le, f8, bd_val, if_true]
    have h2 := gv_bd b w
    have h5 : (0 : Int) ≤ 5 * w * gv b w := Int.mul_nonneg (by omega) h2.1
    have h6 : 5 * w * gv b w ≤ 5000000000 * 11 := Int.mul_le_mul (by omega) h2.2 h2.1 (by omega)
    have h3 : isub .i64 (sv b w 4) (sv b w 3) = iadd .i64 (imul .i64 2 b) 1 := by
      unfold sv
      generalize 5 * w * gv b w = T at h5 h6 ⊢
      rw [imul_in (by omega), iadd_in (by omega), isub_in (by omega)]
      omega
    rw [if_pos h3]
    by_cases hm : fine m = true
    · have hm' := fine_iff.1 hm
      have hr : r1 = (sv b m 3, 0) := by
        have := hr1.symm.trans (steps_val hb hm (by decide) (by omega))
        exact Option.some.inj this
      subst hr
      simp only [if_true]
      by_cases hg : w > m
      · rw [if_pos hg]
      · rw [if_neg hg, if_pos]
        unfold sv
        have := gv_mono b hw'.1 (show w ≤ m by omega)
        have h7 : 5 * w * gv b w ≤ 5 * m * gv b m := Int.mul_le_mul (by omega) this h2.1 (by omega)
        omega
    · have hr : r1 = (0, 7) := by
        have := hr1.symm.trans (steps_bad (b := b) (w := m) (s := 3) (fun h => hm h.2))
        exact Option.some.inj this
      subst hr
      simp
  · obtain ⟨r1, hr1⟩ := ex m
    rw [steps_bad h, bd_val, hr1, bd_val, steps_bad h, bd_val]
    simp only [br_ne, br_eq, f8, bd_val, if_true]
    simp
theorem grow_law (b w m : Int) : F4 (b, w, m) = some true := by
  unfold F4
  rw [height_hv, bd_val, height_hv, bd_val, height_hv, bd_val]
  have tl := tail_ok b w m
  by_cases h : rightB b = true ∧ fine w = true
  · rw [if_pos h]
    obtain ⟨hb, hw⟩ := h
    have hb' := rightB_iff.1 hb
    have hw' := fine_iff.1 hw
    have hbd := hv_bd b w
    have e1 : iadd .i64 b 1 = b + 1 := iadd_in (by omega)
    simp only [e1]
    -- the first condition
    rw [jn_nx (x := false)]
    · rw [br_false]
      rw [jn_nx (x := false)]
      · exact tl
      · rw [jn_nx (x := decide (0 < w ∧ w ≤ 500000000))]
        · by_cases hc : 0 < w ∧ w ≤ 500000000
          · simp only [decide_eq_true hc, br_true]
            have e2 : imul .i64 2 w = 2 * w := imul_in (by omega)
            have hf2 : fine (2 * w) = true := fine_iff.2 (by omega)
            rw [e2, height_hv, bd_val, if_pos ⟨hb, hf2⟩]
            have h2 := hv_double b hc.1
            have h3 : 1 ≤ hv b w := by unfold hv; rw [if_neg (by omega)]; omega
            rw [jn_nx (x := false)]
            · rw [br_false]
            · simp only [br_ne, br_gt, br_lt, if_true]
              rw [iadd_in (by omega), if_neg (by omega), if_neg (by omega)]
              unfold igt
              rw [decide_eq_false (by omega)]
          · simp only [decide_eq_false hc, br_false]
        · simp only [br_eq, br_gt, if_true]
          by_cases hc : w > 0
          · rw [if_pos hc]; unfold ile
            congr 3
            by_cases h5 : w ≤ 500000000 <;> simp [h5]; omega
          · rw [if_neg hc, decide_eq_false (by omega)]
    · simp only [br_eq, br_ne, br_gt, br_le, if_true]
      have m1 : ∀ (p : rightB b = true ∧ fine m = true), w ≤ m → ¬ hv b w > hv b m := fun p q => by have := hv_mono b hw'.1 q; omega
      have m2 : ¬ hv (b + 1) w > hv b w := by have := hv_anti (b := b) (c := b + 1) w (by omega); omega
      by_cases h4 : rightB b = true ∧ fine m = true
      · rw [if_pos h4]
        by_cases h5 : rightB (b + 1) = true ∧ fine w = true
        · rw [if_pos h5]
          simp only [if_true, if_neg m2]
          by_cases h6 : w ≤ m
          · rw [if_pos h6, if_neg (m1 h4 h6)]
          · rw [if_neg h6]
        · rw [if_neg h5]
          by_cases h6 : w ≤ m
          · simp [if_neg (m1 h4 h6)]
          · simp [if_neg h6]
      · rw [if_neg h4]
        by_cases h5 : rightB (b + 1) = true ∧ fine w = true
        · rw [if_pos h5]
          simp [if_neg m2]
        · rw [if_neg h5]
          simp
  · rw [if_neg h]
    rw [jn_nx (x := false)]
    · rw [br_false]
      rw [jn_nx (x := false)]
      · exact tl
      · rw [jn_nx (x := false)]
        · rw [br_false]
        · simp [br_eq]
    · simp [br_eq, ine, br_true]
end Go.Proofs.YtopoaknleakdcaaGreat.bounds
