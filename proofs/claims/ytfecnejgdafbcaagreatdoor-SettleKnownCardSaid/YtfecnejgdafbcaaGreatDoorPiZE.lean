/- A part of the evaluator of the model's code and of its soundness, for any program. No condition. -/
import Derived.Test.YtfecnejgdafbcaaGreatDoorPiZD
namespace Go.Proofs.YtfecnejgdafbcaaGreatDoor.Pi
set_option linter.all false
variable [Gl]
section
/-! Bits. -/
theorem bit_test (m k : Nat) : bit m k = m.testBit k := by
  unfold bit
  show (!Nat.beq (m &&& 2 ^ k) 0) = m.testBit k
  cases hb : m.testBit k with
  | false =>
    have : m &&& 2 ^ k = 0 := by
      apply Nat.eq_of_testBit_eq
      intro j
      rw [Nat.testBit_and, Nat.testBit_two_pow, Nat.zero_testBit]
      by_cases hj : k = j
      · subst hj; simp [hb]
      · simp [hj]
    rw [this]; rfl
  | true =>
    have : m &&& 2 ^ k ≠ 0 := by
      intro h0
      have h1 : (m &&& 2 ^ k).testBit k = true := by rw [Nat.testBit_and, hb, Nat.testBit_two_pow]; simp
      rw [h0] at h1
      simp at h1
    rw [nbeqF this]; rfl
theorem bit_lor (a b k : Nat) : bit (Nat.lor a b) k = (bit a k || bit b k) := by
  simp only [bit_test]; exact Nat.testBit_or a b k
theorem bit_pow (j k : Nat) : bit (Nat.pow 2 j) k = decide (j = k) := by
  rw [bit_test]; exact Nat.testBit_two_pow
theorem apart_no {a b : Nat} (h : apart a b = true) (k : Nat) : ¬ (bit a k = true ∧ bit b k = true) := by
  unfold apart at h
  have h0 : a &&& b = 0 := Nat.eq_of_beq_eq_true h
  rintro ⟨h1, h2⟩
  rw [bit_test] at h1 h2
  have : (a &&& b).testBit k = true := by rw [Nat.testBit_and, h1, h2]; rfl
  rw [h0] at this
  simp at this
theorem tmpBits_mem : ∀ {l : List Operand} {k : Nat}, .tmp k ∈ l → bit (tmpBits l) k = true
  | [], k, h => by simp at h
  | o :: l, k, h => by
    unfold tmpBits
    rw [bit_lor]
    simp only [List.mem_cons] at h
    rcases h with rfl | h
    · simp only [tmpBit, bit_pow]; simp
    · rw [tmpBits_mem h]; simp
theorem meets_false {a b : List Nat} (h : meets a b = false) (x : Nat) : ¬ (x ∈ a ∧ x ∈ b) := by
  induction a with
  | nil => simp
  | cons y a ih =>
    unfold meets at h
    simp only [Bool.or_eq_false_iff] at h
    rintro ⟨h1, h2⟩
    simp only [List.mem_cons] at h1
    rcases h1 with rfl | h1
    · rw [List.any_eq_false] at h
      exact h.1 x h2 (by simp)
    · exact ih h.2 ⟨h1, h2⟩
theorem meets_nil : ∀ (a : List Nat), meets a [] = false
  | [] => rfl
  | x :: a => by unfold meets; rw [meets_nil a]; rfl

variable {P : Program} {rec : Rec}
/-! The run in the order of the text. -/
def PutT (nt : Nat) (dst : Option Nat) (v : PV) (t t' : T PV) : Prop := match dst with
  | none => t' = t
  | some d => d < nt ∧ t' = T.put 20 t d v
structure Tr where
  ts : Nat → T PV
  hp : Nat → Hp
  rd : Nat → List Nat
  wr : Nat → List Nat
def Tr.StepAt (P : Program) (rec : Rec) (base nt : Nat) (opsl : List Oper) (tr : Tr) (j : Nat) (o : Oper) : Prop :=
  (wantedP opsl (tr.ts j) o.guard = true ∧ ∃ v, drawnOp P rec (tr.ts j) (tr.hp j) (base + j) o = some (v, tr.hp (j + 1), tr.rd j, tr.wr j) ∧ PutT nt o.dst v (tr.ts j) (tr.ts (j + 1))) ∨
  (wantedP opsl (tr.ts j) o.guard = false ∧ tr.hp (j + 1) = tr.hp j ∧ tr.rd j = [] ∧ tr.wr j = [] ∧ PutT nt o.dst (.tup []) (tr.ts j) (tr.ts (j + 1)))
def Tr.Clear (tr : Tr) (bef j k : Nat) : Prop := bit bef k = true ∨ (meets (tr.wr k) (tr.rd j) = false ∧ meets (tr.wr j) (tr.rd k) = false)
theorem heapOk_get {bef : Nat} {rd wr : List Nat} : ∀ {past : List (Nat × List Nat × List Nat)}, heapOk bef rd wr past = true → ∀ k r w, (k, r, w) ∈ past → bit bef k = true ∨ (meets w rd = false ∧ meets wr r = false)
  | [], _, k, r, w, h => by simp at h
  | (k0, r0, w0) :: past, e, k, r, w, h => by
    unfold heapOk at e
    simp only [Bool.and_eq_true, Bool.or_eq_true, Bool.not_eq_true', Bool.or_eq_false_iff] at e
    simp only [List.mem_cons] at h
    rcases h with h | h
    · cases h; exact e.1
    · exact heapOk_get e.2 k r w h
theorem go_trace {base nt : Nat} {opsl : List Oper} {t' : T PV} {h' : Hp} : ∀ (l : List Oper) (ms : List Mk) (i : Nat) (past : List (Nat × List Nat × List Nat)) (t : T PV) (h : Hp),
    drawnGo P rec base nt opsl i l ms past t h = some (t', h') → ∀ (rd0 wr0 : Nat → List Nat), (∀ k, k < i → (k, rd0 k, wr0 k) ∈ past ∨ (rd0 k = [] ∧ wr0 k = [])) →
    ∃ tr : Tr, tr.ts i = t ∧ tr.hp i = h ∧ tr.ts (i + l.length) = t' ∧ tr.hp (i + l.length) = h' ∧ (∀ k, k < i → tr.rd k = rd0 k ∧ tr.wr k = wr0 k) ∧
      ∀ j o m, l[j]? = some o → ms[j]? = some m → tr.StepAt P rec base nt opsl (i + j) o ∧ ∀ k, k < i + j → tr.Clear m.bef (i + j) k
  | [], ms, i, past, t, h, e, rd0, wr0, hpast => by
    unfold drawnGo at e
    cases e
    exact ⟨⟨fun _ => t', fun _ => h', rd0, wr0⟩, rfl, rfl, rfl, rfl, fun _ _ => ⟨rfl, rfl⟩, fun j o m hj => by simp at hj⟩
  | o :: l, [], i, past, t, h, e, rd0, wr0, hpast => by unfold drawnGo at e; cases e
  | o :: l, m :: ms, i, past, t, h, e, rd0, wr0, hpast => by
    unfold drawnGo at e
    -- what follows, once the step is known
    have fin : ∀ {v : PV} {t1 : T PV} {h1 : Hp} {rd1 wr1 : List Nat} {past1 : List (Nat × List Nat × List Nat)}, drawnGo P rec base nt opsl (i + 1) l ms past1 t1 h1 = some (t', h') → PutT nt o.dst v t t1 →
        (wantedP opsl t o.guard = true ∧ drawnOp P rec t h (base + i) o = some (v, h1, rd1, wr1) ∨ wantedP opsl t o.guard = false ∧ h1 = h ∧ rd1 = [] ∧ wr1 = [] ∧ v = .tup []) →
        (∀ k r w, (k, r, w) ∈ past → (k, r, w) ∈ past1) → ((i, rd1, wr1) ∈ past1 ∨ (rd1 = [] ∧ wr1 = [])) → (∀ k r w, (k, r, w) ∈ past → bit m.bef k = true ∨ (meets w rd1 = false ∧ meets wr1 r = false)) →
        ∃ tr : Tr, tr.ts i = t ∧ tr.hp i = h ∧ tr.ts (i + (o :: l).length) = t' ∧ tr.hp (i + (o :: l).length) = h' ∧ (∀ k, k < i → tr.rd k = rd0 k ∧ tr.wr k = wr0 k) ∧
          ∀ j o' m', (o :: l)[j]? = some o' → (m :: ms)[j]? = some m' → tr.StepAt P rec base nt opsl (i + j) o' ∧ ∀ k, k < i + j → tr.Clear m'.bef (i + j) k := by
      intro v t1 h1 rd1 wr1 past1 e1 hput hstep hsub hin hok
      obtain ⟨tr, k1, k2, k3, k4, k5, k6⟩ := go_trace l ms (i + 1) past1 t1 h1 e1 (fun k => if k = i then rd1 else rd0 k) (fun k => if k = i then wr1 else wr0 k) (by
        intro k hk
        by_cases hki : k = i
        · subst hki; simpa using hin
        · simp only [if_neg hki]
          rcases hpast k (by omega) with hp | hp
          · exact .inl (hsub _ _ _ hp)
          · exact .inr hp)
      obtain ⟨hrd, hwr⟩ := k5 i (by omega)
      simp only [if_true] at hrd hwr
      refine ⟨⟨fun k => if k = i then t else tr.ts k, fun k => if k = i then h else tr.hp k, tr.rd, tr.wr⟩, by simp, by simp, ?_, ?_, ?_, ?_⟩
      · simp only [List.length_cons]
        rw [if_neg (by omega), show i + (l.length + 1) = i + 1 + l.length by omega]; exact k3
      · simp only [List.length_cons]
        rw [if_neg (by omega), show i + (l.length + 1) = i + 1 + l.length by omega]; exact k4
      · intro k hk
        have := k5 k (by omega)
        simp only [if_neg (show k ≠ i by omega)] at this
        exact this
      · intro j o' m' hj hm'
        cases j with
        | zero =>
          simp only [List.getElem?_cons_zero, Option.some.injEq] at hj hm'
          subst hj; subst hm'
          simp only [Nat.add_zero]
          constructor
          · rcases hstep with ⟨a1, a2⟩ | ⟨a1, a2, a3, a4, a5⟩
            · refine .inl ⟨by simpa using a1, v, ?_, ?_⟩
              · simp only [if_true, if_neg (show i + 1 ≠ i by omega)]
                rw [k2, hrd, hwr]; exact a2
              · simp only [if_true, if_neg (show i + 1 ≠ i by omega)]
                rw [k1]; exact hput
            · refine .inr ⟨by simpa using a1, ?_, by rw [hrd, a3], by rw [hwr, a4], ?_⟩
              · simp only [if_true, if_neg (show i + 1 ≠ i by omega)]
                rw [k2, a2]
              · simp only [if_true, if_neg (show i + 1 ≠ i by omega)]
                rw [k1, ← a5]; exact hput
          · intro k hk
            have hkk := k5 k (by omega)
            simp only [if_neg (show k ≠ i by omega)] at hkk
            unfold Tr.Clear
            simp only [hrd, hwr, hkk.1, hkk.2]
            rcases hpast k hk with hp | ⟨hp1, hp2⟩
            · exact hok _ _ _ hp
            · rw [hp1, hp2]; exact .inr ⟨rfl, meets_nil _⟩
        | succ j =>
          obtain ⟨q1, q2⟩ := k6 j o' m' (by simpa using hj) (by simpa using hm')
          rw [show i + (j + 1) = i + 1 + j by omega]
          refine ⟨?_, q2⟩
          unfold Tr.StepAt at q1 ⊢
          simp only [if_neg (show i + 1 + j ≠ i by omega), if_neg (show i + 1 + j + 1 ≠ i by omega)]
          exact q1
    cases hw : wantedP opsl t o.guard with
    | true =>
      simp only [hw, cond_true] at e
      split at e
      · rename_i v h1 rd1 wr1 hd
        replace e := bifT e; obtain ⟨hok, e⟩ := e
        cases hdst : o.dst with
        | some d =>
          simp only [hdst] at e
          replace e := bifT e; obtain ⟨hlt, e⟩ := e
          exact fin e (by rw [hdst]; exact ⟨by simpa using hlt, rfl⟩) (.inl ⟨hw, hd⟩) (fun k r w hp => List.mem_cons_of_mem _ hp) (.inl List.mem_cons_self) (fun k r w hp => heapOk_get hok k r w hp)
        | none =>
          simp only [hdst] at e
          exact fin e (by rw [hdst]; exact rfl) (.inl ⟨hw, hd⟩) (fun k r w hp => List.mem_cons_of_mem _ hp) (.inl List.mem_cons_self) (fun k r w hp => heapOk_get hok k r w hp)
      · cases e
    | false =>
      simp only [hw, cond_false] at e
      cases hdst : o.dst with
      | some d =>
        simp only [hdst] at e
        replace e := bifT e; obtain ⟨hlt, e⟩ := e
        exact fin (v := .tup []) e (by rw [hdst]; exact ⟨by simpa using hlt, rfl⟩) (.inr ⟨hw, rfl, rfl, rfl, rfl⟩) (fun k r w hp => hp) (.inr ⟨rfl, rfl⟩) (fun k r w hp => .inr ⟨meets_nil _, rfl⟩)
      | none =>
        simp only [hdst] at e
        exact fin (v := .tup []) e (by rw [hdst]; exact rfl) (.inr ⟨hw, rfl, rfl, rfl, rfl⟩) (fun k r w hp => hp) (.inr ⟨rfl, rfl⟩) (fun k r w hp => .inr ⟨meets_nil _, rfl⟩)

/-! The marks. -/
theorem marksOk_get {m : Mk} : ∀ {l : List Mk} {j : Nat}, marksOk m j l = true → ∀ k x, l[k]? = some x → bit m.bef (j + k) = true ∨ (apart x.wr (Nat.lor m.rd m.wr) = true ∧ apart x.rd m.wr = true)
  | [], j, _, k, x, h => by simp at h
  | y :: l, j, e, k, x, h => by
    unfold marksOk at e
    simp only [Bool.and_eq_true, Bool.or_eq_true] at e
    cases k with
    | zero => simp only [List.getElem?_cons_zero, Option.some.injEq] at h; subst h; exact e.1
    | succ k =>
      have := marksOk_get e.2 k x (by simpa using h)
      rwa [show j + 1 + k = j + (k + 1) by omega] at this
def MkAt (opsl : List Oper) (ms : List Mk) (i : Nat) (o : Oper) (m : Mk) : Prop :=
  m.rd = Nat.lor (tmpBits (opnds o.op)) (guardBit opsl o.guard) ∧ m.wr = dstBit o.dst ∧ m.bef = edgeBits (ms.take i) o.after.toList ∧ edgesOk i o.after.toList = true ∧ marksOk m 0 (ms.take i) = true
theorem marks_ok {opsl : List Oper} : ∀ (l : List Oper) (i : Nat) (acc ms : List Mk), marksOf opsl i l acc = some ms → acc.length = i →
    (∃ ms', ms = acc ++ ms' ∧ ms'.length = l.length) ∧ ∀ j o, l[j]? = some o → ∃ m, ms[i + j]? = some m ∧ MkAt opsl ms (i + j) o m
  | [], i, acc, ms, e, hl => by simp [marksOf] at e; subst e; exact ⟨⟨[], by simp, rfl⟩, fun j o h => by simp at h⟩
  | o :: l, i, acc, ms, e, hl => by
    unfold marksOf at e
    simp only at e
    replace e := bifT e; obtain ⟨hc, e⟩ := e
    simp only [Bool.and_eq_true] at hc
    obtain ⟨⟨ms', hms, hlen⟩, hrest⟩ := marks_ok l (i + 1) _ ms e (by simp [hl])
    refine ⟨⟨_ :: ms', by rw [hms, List.append_assoc]; rfl, by simp [hlen]⟩, fun j o' hj => ?_⟩
    cases j with
    | zero =>
      simp only [List.getElem?_cons_zero, Option.some.injEq] at hj
      subst hj
      have htake : ms.take i = acc := by rw [hms, List.append_assoc, ← hl]; simp
      refine ⟨{ rd := Nat.lor (tmpBits (opnds o.op)) (guardBit opsl o.guard), wr := dstBit o.dst, bef := edgeBits acc o.after.toList }, ?_, ?_⟩
      · rw [hms, ← hl]; simp
      · rw [Nat.add_zero]
        unfold MkAt
        rw [htake]
        exact ⟨rfl, rfl, rfl, hc.1, hc.2⟩
    | succ j =>
      obtain ⟨m, h1, h2⟩ := hrest j o' (by simpa using hj)
      rw [show i + (j + 1) = i + 1 + j by omega]
      exact ⟨m, h1, h2⟩
theorem edgeBits_get {acc : List Mk} : ∀ {es : List Edge} {k : Nat}, bit (edgeBits acc es) k = true → ∃ e ∈ es, Region.binds .any e = true ∧ (e.on = k ∨ ∃ m, acc[e.on]? = some m ∧ bit m.bef k = true)
  | [], k, h => by rw [bit_test] at h; simp [edgeBits] at h
  | e :: es, k, h => by
    unfold edgeBits at h
    cases hb : Region.binds .any e with
    | true =>
      simp only [hb, cond_true] at h
      rw [bit_lor, bit_lor, bit_pow] at h
      simp only [Bool.or_eq_true, decide_eq_true_eq] at h
      rcases h with (h | h) | h
      · exact ⟨e, by simp, hb, .inl h⟩
      · rw [lget_eq] at h
        cases hm : acc[e.on]? with
        | none => rw [hm, bit_test] at h; simp at h
        | some m => rw [hm] at h; exact ⟨e, by simp, hb, .inr ⟨m, hm, h⟩⟩
      · obtain ⟨e', h1, h2, h3⟩ := edgeBits_get h
        exact ⟨e', by simp [h1], h2, h3⟩
    | false =>
      simp only [hb, cond_false] at h
      obtain ⟨e', h1, h2, h3⟩ := edgeBits_get h
      exact ⟨e', by simp [h1], h2, h3⟩
theorem edgesOk_get {i : Nat} : ∀ {es : List Edge}, edgesOk i es = true → ∀ e ∈ es, Region.binds .any e = true → e.on < i
  | [], _, e, he => by simp at he
  | e0 :: es, h, e, he => by
    unfold edgesOk at h
    simp only [Bool.and_eq_true, Bool.or_eq_true, Bool.not_eq_true', Nat.blt_eq] at h
    intro hb
    simp only [List.mem_cons] at he
    rcases he with rfl | he
    · rcases h.1 with h1 | h1
      · rw [hb] at h1; cases h1
      · exact h1
    · exact edgesOk_get h.2 e he hb
end
end Go.Proofs.YtfecnejgdafbcaaGreatDoor.Pi
