/- A part of the evaluator of the model's code and of its soundness, for any program. No condition. -/
import Derived.Test.YtfecnejgdafbcaaGreatDoorPiK
namespace Go.Proofs.YtfecnejgdafbcaaGreatDoor.Pi
set_option linter.all false
variable [Gl]
section
variable {P : Program} {M : Mem} {μ : Mu} {h : Hp} {w : World}

def num : Value → Nat
  | .int _ _ => 1
  | .float _ _ => 2
  | .complex _ _ _ => 3
  | .string _ => 4
  | _ => 0
def pnum : PV → Nat
  | .int _ _ => 1
  | .str _ => 4
  | _ => 0
theorem rep_num {p : PV} {x : Value} (hx : Rep M μ p x) : num x = pnum p := by cases hx <;> rfl
theorem binOp_eql' (t : TypeId) (x y : Value) (hn : ¬ (num x = num y ∧ num x ≠ 0)) : binOp .eql t x y = (do pure (.bool (← Op.equal t x y))) := by
  cases x <;> cases y <;> first | rfl | (simp [num] at hn)
theorem binOp_neq' (t : TypeId) (x y : Value) (hn : ¬ (num x = num y ∧ num x ≠ 0)) : binOp .neq t x y = (do pure (.bool (!(← Op.equal t x y)))) := by
  cases x <;> cases y <;> first | rfl | (simp [num] at hn)
theorem run_binOp_int {op : BinOp} {t : TypeId} {k k' : IntKind} {a b : Int} {v : PV} (e : (match op with
    | .shl | .shr => pshift op k a b
    | _ => bif k == k' then pint op k a b else none) = some v) : ∃ z, (binOp op t (.int k a) (.int k' b)).run P w = .ok z w ∧ Rep M μ v z := by
  have sh : ∀ op : BinOp, (op = .shl ∨ op = .shr) → pshift op k a b = some v → ∃ z, (Op.shift op k a k' b).run P w = .ok z w ∧ Rep M μ v z := by
    intro op hop e
    unfold pshift at e
    replace e := bifF e; obtain ⟨h0, e⟩ := e
    have h0' : ¬ (b < 0) := by simpa using h0
    rcases hop with rfl | rfl
    · cases e; exact ⟨.int k (k.wrap (a * 2 ^ (min b.toNat k.bits))), by simp only [Op.shift, if_neg h0']; rfl, .int _ _ _⟩
    · cases e; exact ⟨.int k (a.fdiv (2 ^ (min b.toNat k.bits))), by simp only [Op.shift, if_neg h0']; rfl, .int _ _ _⟩
  have co : ∀ op : BinOp, op ≠ .shl → op ≠ .shr → (bif k == k' then pint op k a b else none) = some v → k = k' ∧ pint op k a b = some v := by
    intro op _ _ e
    replace e := bifT e
    exact ⟨by simpa using e.1, e.2⟩
  cases op with
  | shl => exact sh _ (.inl rfl) e
  | shr => exact sh _ (.inr rfl) e
  | add => obtain ⟨rfl, e2⟩ := co .add (by decide) (by decide) e; clear e; cases e2; exact ⟨.int k (k.wrap (a + b)), by simp only [binOp, ne_eq, not_true_eq_false, if_false]; rfl, .int _ _ _⟩
  | sub => obtain ⟨rfl, e2⟩ := co .sub (by decide) (by decide) e; clear e; cases e2; exact ⟨.int k (k.wrap (a - b)), by simp only [binOp, ne_eq, not_true_eq_false, if_false]; rfl, .int _ _ _⟩
  | mul => obtain ⟨rfl, e2⟩ := co .mul (by decide) (by decide) e; clear e; cases e2; exact ⟨.int k (k.wrap (a * b)), by simp only [binOp, ne_eq, not_true_eq_false, if_false]; rfl, .int _ _ _⟩
  | quo =>
    obtain ⟨rfl, e2⟩ := co .quo (by decide) (by decide) e
    have e' := bifF e2
    have hb : b ≠ 0 := by intro hc; have := e'.1; subst hc; simp at this
    have := e'.2; cases this
    exact ⟨.int k (k.wrap (a.tdiv b)), by simp only [binOp, ne_eq, not_true_eq_false, if_false, Op.intDiv, if_neg hb]; rfl, .int _ _ _⟩
  | rem =>
    obtain ⟨rfl, e2⟩ := co .rem (by decide) (by decide) e
    have e' := bifF e2
    have hb : b ≠ 0 := by intro hc; have := e'.1; subst hc; simp at this
    have := e'.2; cases this
    exact ⟨.int k (a.tmod b), by simp only [binOp, ne_eq, not_true_eq_false, if_false, Op.intDiv, if_neg hb]; rfl, .int _ _ _⟩
  | and => obtain ⟨rfl, e2⟩ := co .and (by decide) (by decide) e; clear e; cases e2; exact ⟨.int k (k.wrap (BitVec.ofInt k.bits a &&& BitVec.ofInt k.bits b).toNat), by simp only [binOp, ne_eq, not_true_eq_false, if_false]; rfl, .int _ _ _⟩
  | or => obtain ⟨rfl, e2⟩ := co .or (by decide) (by decide) e; clear e; cases e2; exact ⟨.int k (k.wrap (BitVec.ofInt k.bits a ||| BitVec.ofInt k.bits b).toNat), by simp only [binOp, ne_eq, not_true_eq_false, if_false]; rfl, .int _ _ _⟩
  | xor => obtain ⟨rfl, e2⟩ := co .xor (by decide) (by decide) e; clear e; cases e2; exact ⟨.int k (k.wrap (BitVec.ofInt k.bits a ^^^ BitVec.ofInt k.bits b).toNat), by simp only [binOp, ne_eq, not_true_eq_false, if_false]; rfl, .int _ _ _⟩
  | andNot => obtain ⟨rfl, e2⟩ := co .andNot (by decide) (by decide) e; clear e; cases e2
  | eql => obtain ⟨rfl, e2⟩ := co .eql (by decide) (by decide) e; clear e; cases e2; exact ⟨.bool (a == b), by simp only [binOp, ne_eq, not_true_eq_false, if_false]; rfl, .bool _ _⟩
  | neq => obtain ⟨rfl, e2⟩ := co .neq (by decide) (by decide) e; clear e; cases e2; exact ⟨.bool (a != b), by simp only [binOp, ne_eq, not_true_eq_false, if_false]; rfl, .bool _ _⟩
  | lss => obtain ⟨rfl, e2⟩ := co .lss (by decide) (by decide) e; clear e; cases e2; exact ⟨.bool (decide (a < b)), by simp only [binOp, ne_eq, not_true_eq_false, if_false]; rfl, .bool _ _⟩
  | leq => obtain ⟨rfl, e2⟩ := co .leq (by decide) (by decide) e; clear e; cases e2; exact ⟨.bool (decide (a ≤ b)), by simp only [binOp, ne_eq, not_true_eq_false, if_false]; rfl, .bool _ _⟩
  | gtr => obtain ⟨rfl, e2⟩ := co .gtr (by decide) (by decide) e; clear e; cases e2; exact ⟨.bool (decide (a > b)), by simp only [binOp, ne_eq, not_true_eq_false, if_false]; rfl, .bool _ _⟩
  | geq => obtain ⟨rfl, e2⟩ := co .geq (by decide) (by decide) e; clear e; cases e2; exact ⟨.bool (decide (a ≥ b)), by simp only [binOp, ne_eq, not_true_eq_false, if_false]; rfl, .bool _ _⟩
theorem run_binOp_str {op : BinOp} {t : TypeId} {a b : List UInt8} {x y : ByteArray} {v : PV} (ha : x.data.toList = a) (hb : y.data.toList = b) (e : pstr op a b = some v) :
    ∃ z, (binOp op t (.string x) (.string y)).run P w = .ok z w ∧ Rep M μ v z := by
  have ex : x.toList = a := by rw [ByteArray.toList_eq, ha]
  have ey : y.toList = b := by rw [ByteArray.toList_eq, hb]
  unfold pstr at e
  cases op with
  | add =>
    have e' := bifT e
    obtain ⟨hl, e2⟩ := e'
    cases e2
    refine ⟨.string (x ++ y), ?_, str_of (by rw [ByteArray.data_append]; simp [ha, hb]) μ⟩
    have hs : ¬ (((x.size + y.size : Nat) : Int) > IntKind.i64.max) := by
      have h1 : x.size = a.length := by rw [← ha]; simp
      have h2 : y.size = b.length := by rw [← hb]; simp
      have h3 : IntKind.i64.max = 9223372036854775807 := by decide
      have h4 : a.length + b.length ≤ 1000000000 := by simpa using hl
      rw [h3]; omega
    show (Op.stringOp .add x y).run P w = _
    simp only [Op.stringOp]
    rw [if_neg hs]
    rfl
  | eql => cases e; exact ⟨.bool (a == b), by simp only [binOp, Op.stringOp, ex, ey]; rfl, .bool _ _⟩
  | neq => cases e; exact ⟨.bool (!(a == b)), by simp only [binOp, Op.stringOp, ex, ey]; rfl, .bool _ _⟩
  | lss => cases e; exact ⟨.bool (Op.bytesLess a b), by simp only [binOp, Op.stringOp, ex, ey]; rfl, .bool _ _⟩
  | leq => cases e; exact ⟨.bool (Op.bytesLess a b || a == b), by simp only [binOp, Op.stringOp, ex, ey]; rfl, .bool _ _⟩
  | gtr => cases e; exact ⟨.bool (!(Op.bytesLess a b || a == b)), by simp only [binOp, Op.stringOp, ex, ey]; rfl, .bool _ _⟩
  | geq => cases e; exact ⟨.bool (!Op.bytesLess a b), by simp only [binOp, Op.stringOp, ex, ey]; rfl, .bool _ _⟩
  | sub => cases e
  | mul => cases e
  | quo => cases e
  | rem => cases e
  | and => cases e
  | or => cases e
  | xor => cases e
  | shl => cases e
  | shr => cases e
  | andNot => cases e
theorem pbin_ok {op : BinOp} {ty : TypeId} {p q v : PV} {x y : Value} (e : pbin P op ty p q = some v) (hx : Rep M μ p x) (hy : Rep M μ q y) :
    ∃ z, (binOp op ty x y).run P w = .ok z w ∧ Rep M μ v z := by
  unfold pbin at e
  split at e
  · cases hx; cases hy; exact run_binOp_int e
  · cases hx; cases hy; exact run_binOp_str rfl rfl e
  · rename_i n1 n2
    have hn : ¬ (num x = num y ∧ num x ≠ 0) := by
      rw [rep_num hx, rep_num hy]
      rintro ⟨h1, h2⟩
      cases p <;> (try (exact h2 rfl)) <;> cases q <;> first
        | (simp [pnum] at h1; done)
        | exact n1 _ _ _ _ rfl rfl
        | exact n2 _ _ rfl rfl
    split at e
    · obtain ⟨b, hb, rfl⟩ := mapOpt e
      have := (peq_ok (P := P) (w := w) (M := M) (μ := μ) eqDepth).1 ty p q b x y 10000 hb hx hy (by decide)
      refine ⟨.bool b, ?_, .bool _ _⟩
      rw [binOp_eql' ty x y hn]
      simp [Op.equal, Op.maxDepth, this]
    · obtain ⟨b, hb, rfl⟩ := mapOpt e
      have := (peq_ok (P := P) (w := w) (M := M) (μ := μ) eqDepth).1 ty p q b x y 10000 hb hx hy (by decide)
      refine ⟨.bool (!b), ?_, .bool _ _⟩
      rw [binOp_neq' ty x y hn]
      simp [Op.equal, Op.maxDepth, this]
    · cases e
theorem guard_plain (op : BinOp) (t : TypeId) (x y : Operand) (a b : Value) (h1 : ¬ (a = .nilIface ∧ b = .nilIface)) (h2 : ∀ u v, ¬ (a = .agg u ∧ b = .agg v)) : (eqGuard op t x y a b).run P w = .ok () w := by
  cases op <;> simp [eqGuard] <;> (cases a <;> cases b <;> first | rfl | exact absurd ⟨rfl, rfl⟩ h1 | exact absurd ⟨rfl, rfl⟩ (h2 _ _))
theorem guard_nil (op : BinOp) (t : TypeId) (x y : Operand) (hc : (isConstO x || isConstO y) = true) : (eqGuard op t x y .nilIface .nilIface).run P w = .ok () w := by
  cases x <;> cases y <;> first | (simp [isConstO] at hc; done) | (cases op <;> simp [eqGuard])
theorem bin_ok (s : Sim M μ h w) {op : BinOp} {ty : TypeId} {x y : Operand} {p q : PV} {vx vy : Value} (hx : Rep M μ p vx) (hy : Rep M μ q vy) {r : R} (e : evBin P h op ty x y p q = some r) :
    Says P M μ w ((do pure (.value (← (do eqGuard op ty x y vx vy; binOp op ty vx vy))) : Sem Next).run P w) r := by
  unfold evBin at e
  split at e
  · replace e := bifT e; obtain ⟨hc, e⟩ := e
    obtain ⟨v, hv, rfl⟩ := vl_ok e
    obtain ⟨z, hz, hrz⟩ := pbin_ok (w := w) hv hx hy
    cases hx; cases hy
    exact says_val s (by simp [guard_nil op ty x y hc, hz]) hrz
  · rename_i cs ds
    replace e := bifF e; obtain ⟨hc, e⟩ := e
    obtain ⟨v, hv, rfl⟩ := vl_ok e
    obtain ⟨z, hz, hrz⟩ := pbin_ok (w := w) hv hx hy
    obtain ⟨xs, rfl, _⟩ := aggs_of hx
    obtain ⟨ys, rfl, _⟩ := aggs_of hy
    exact says_val s (by simp [run_eqGuard_agg w op ty x y xs ys hc, hz]) hrz
  · rename_i n1 n2
    obtain ⟨v, hv, rfl⟩ := vl_ok e
    obtain ⟨z, hz, hrz⟩ := pbin_ok (w := w) hv hx hy
    have g := guard_plain (P := P) (w := w) op ty x y vx vy (by
      rintro ⟨rfl, rfl⟩; cases hx; cases hy; exact n1 rfl rfl) (by
      rintro u v ⟨rfl, rfl⟩; cases hx; cases hy; exact n2 _ _ rfl rfl)
    exact says_val s (by simp [g, hz]) hrz
theorem un_ok (s : Sim M μ h w) {op : UnOp} {p : PV} {x : Value} (hx : Rep M μ p x) {r : R} (e : vl (pun op p) h = some r) :
    Says P M μ w ((do pure (.value (← Op.unary op x)) : Sem Next).run P w) r := by
  obtain ⟨v, hv, rfl⟩ := vl_ok e
  unfold pun at hv
  split at hv
  · cases hx
    split at hv
    · cases hv; exact says_val s (x := .bool _) (by simp [Op.unary]) (.bool _ _)
    · cases hv
  · cases hx
    split at hv
    · cases hv; exact says_val s (x := .int _ _) (by simp [Op.unary, Op.intArith]) (.int _ _ _)
    · cases hv
  · cases hv
end
end Go.Proofs.YtfecnejgdafbcaaGreatDoor.Pi
