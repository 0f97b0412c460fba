/- A part of the evaluator over typed open values for any program, and of the proof that it is sound. No condition. -/
import Derived.Test.YtopoaknleakdcaaGreatPs0
set_option linter.unusedVariables false
namespace Go.Proofs.YtopoaknleakdcaaGreat.Sv
open Go.Proofs.YtopoaknleakdcaaGreat.Pi (PV T Hp Blk DF UM PE)
section
variable {X : Cx} {h : H} {n : Nat}
theorem RH.alias (r : RH X h n) {id : Nat} {b : BA} {a : At} (hid : id < 1048575) (hn : id < n) (hp : X.π id = none) (ha : ∀ pid m, a ≠ .blk pid m) (hb : ∀ Y : Cx, Up X Y → BR Y b (some a)) (idQ : Nat) :
    ∃ Y : Cx, Y.π = Sv.upd X.π id (some a) ∧ Y.h = X.h ∧ RH Y (hput h id b) n ∧ St X h id idQ Y (hput h id b) := by
  let Y : Cx := { π := Sv.upd X.π id (some a), h := X.h, O := X.O }
  have hpi : ∀ j, j ≠ id → Y.π j = X.π j := fun j hj => if_neg hj
  have hpi0 : Y.π id = some a := if_pos rfl
  have u : Up X Y := ⟨fun j a hj => by
    rw [hpi j (by intro hh; subst hh; rw [hp] at hj; cases hj)]; exact hj, fun q es ex fz hq hg => ⟨⟨fz, hg⟩, hq⟩⟩
  have hnone : ∀ bb, h.get id = some bb → ¬ bb.live := fun bb hg hl => by
    have := r.blk _ _ hg
    rw [hp] at this
    cases bb <;> first | exact hl | (simp [BR] at this)
  refine ⟨Y, rfl, rfl, ⟨fun i bb hi => ?_, fun i i' bb bb' q m1 m2 hi hi' l1 l2 a1 a2 => ?_, fun i a hi => ?_, r.fresh, r.ob⟩, ⟨u, rfl, fun j hj k => by rw [hpi j hj]; exact k, fun q hq hn => hn, fun j bb hj hlk => ?_, fun q st pe nt t ps asg body d hq => hq⟩⟩
  · rw [hput_get hid] at hi
    by_cases hii : i = id
    · rw [if_pos hii] at hi; cases hi; subst hii; rw [hpi0]; exact hb Y u
    · rw [if_neg hii] at hi
      rw [hpi i hii]
      exact (r.blk _ _ hi).keep u fun q m' hq hO' => ⟨rfl, hO'⟩
  · rw [hput_get hid] at hi hi'
    have nb : ∀ {i : Nat} {q m : Nat}, Y.π i = some (.blk q m) → i ≠ id := fun hh e => by
      subst e; rw [hpi0] at hh; exact ha _ _ (Option.some.inj hh)
    rw [if_neg (nb a1)] at hi; rw [if_neg (nb a2)] at hi'
    rw [hpi _ (nb a1)] at a1; rw [hpi _ (nb a2)] at a2
    exact r.inj _ _ _ _ _ _ _ hi hi' l1 l2 a1 a2
  · by_cases hii : i = id
    · rw [hii]; exact hn
    · rw [hpi i hii] at hi; exact r.dom _ _ hi
  · rw [hput_get hid, if_neg]
    · exact hj
    · intro hh; subst hh
      have := hnone _ hj
      cases bb <;> first | exact absurd trivial this | cases hlk
theorem RH.dead (r : RH X h n) {j : Nat} {b : BA} (hid : j < 1048575) (e0 : h.get j = some b) (hk : b.locked = false) (idQ : Nat) : RH X (hput h j .dead) n ∧ ∀ i, St X h i idQ X (hput h j .dead) := by
  refine ⟨⟨fun i bb hi => ?_, fun i i' bb bb' q m1 m2 hi hi' l1 l2 a1 a2 => ?_, r.dom, r.fresh, r.ob⟩, fun i => ⟨Up.refl X, rfl, fun _ _ h => h, fun _ _ h => h, fun i bb hi hlk => ?_, fun q st pe nt t ps asg body d hq => hq⟩⟩
  · rw [hput_get hid] at hi
    by_cases hii : i = j
    · rw [if_pos hii] at hi; cases hi; trivial
    · rw [if_neg hii] at hi; exact r.blk _ _ hi
  · rw [hput_get hid] at hi hi'
    have nd : ∀ {i : Nat} {bb : BA}, (if i = j then some BA.dead else h.get i) = some bb → bb.live → h.get i = some bb := fun {i bb} e hl => by
      by_cases hii : i = j
      · rw [if_pos hii] at e; cases e; exact hl.elim
      · rw [if_neg hii] at e; exact e
    exact r.inj _ _ _ _ _ _ _ (nd hi l1) (nd hi' l2) l1 l2 a1 a2
  · rw [hput_get hid, if_neg]
    · exact hi
    · intro hh; subst hh; rw [e0] at hi; cases hi; rw [hk] at hlk; cases hlk
end

/-- as DR, but for the outer rows, which Q allows -/
def DX (h : Hp) (Q Q' : Nat → Prop) : (c : Ty) → c.den → List PV → Prop
  | .int k, n, ps => ps = [.int k n]
  | .bool, b, ps => ps = [.bool b]
  | .str, s, ps => ps = [.str s]
  | .unit, _, ps => ps = []
  | .pair a b, x, ps => ∃ p q, ps = p ++ q ∧ DX h Q Q' a x.1 p ∧ DX h Q Q' b x.2 q
  | .sl g c, l, ps => ∃ p, ps = [p] ∧ ((p = .nils ∧ l = []) ∨ (∃ f es, p = .lst f es ∧ L2 (EP g (DP c)) l es) ∨
      ∃ pid off len es ex fz, p = .own pid off len ∧ Q pid ∧ h.get pid = some (.row es ex fz) ∧ off + len ≤ es.length ∧ Pi.elOk c.wd es = true ∧ L2 (EP g (DR h Q' c)) l ((es.drop off).take len))
theorem DX.same {h : Hp} {Q : Nat → Prop} : ∀ {c : Ty} {x : c.den} {ps : List PV}, DX h Q Q c x ps → DR h Q c x ps
  | .int _, _, _, e => e
  | .bool, _, _, e => e
  | .str, _, _, e => e
  | .unit, _, _, e => e
  | .pair _ _, _, _, ⟨p, q, e, h1, h2⟩ => ⟨p, q, e, DX.same h1, DX.same h2⟩
  | .sl _ _, _, _, h => h
theorem DR.pure {Q : Nat → Prop} : ∀ {c : Ty} {x : c.den} {ps : List PV}, DR hp0 Q c x ps → DP c x ps
  | .int _, _, _, e => e
  | .bool, _, _, e => e
  | .str, _, _, e => e
  | .unit, _, _, e => e
  | .pair _ _, _, _, ⟨p, q, e, h1, h2⟩ => ⟨p, q, e, DR.pure h1, DR.pure h2⟩
  | .sl _ _, _, _, ⟨p, e, h⟩ => ⟨p, e, by
    rcases h with h | h | ⟨pid, off, len, es, ex, fz, h1, h2, h3, h4, h5⟩
    · exact .inl h
    · exact .inr h
    · cases h3⟩
theorem DX.pure {Q Q' : Nat → Prop} : ∀ {c : Ty} {x : c.den} {ps : List PV}, DX hp0 Q Q' c x ps → DP c x ps
  | .int _, _, _, e => e
  | .bool, _, _, e => e
  | .str, _, _, e => e
  | .unit, _, _, e => e
  | .pair _ _, _, _, ⟨p, q, e, h1, h2⟩ => ⟨p, q, e, DX.pure h1, DX.pure h2⟩
  | .sl _ _, _, _, ⟨p, e, h⟩ => ⟨p, e, by
    rcases h with h | h | ⟨pid, off, len, es, ex, fz, h1, h2, h3, h4, h5⟩
    · exact .inl h
    · exact .inr h
    · cases h3⟩
theorem DR.leaf : ∀ {hh : Hp} {Q : Nat → Prop} {c : Ty} {y : c.den} {ps : List PV}, DR hh Q c y ps → ∀ p ∈ ps, (∀ cs, p ≠ .agg cs) ∧ (∀ cs, p ≠ .tup cs) ∧ p.cells = [p]
  | _, _, .int _, _, _, e, p, hp => by subst e; simp at hp; subst hp; simp [PV.cells]
  | _, _, .bool, _, _, e, p, hp => by subst e; simp at hp; subst hp; simp [PV.cells]
  | _, _, .str, _, _, e, p, hp => by subst e; simp at hp; subst hp; simp [PV.cells]
  | _, _, .unit, _, _, e, p, hp => by subst e; simp at hp
  | _, _, .pair _ _, _, _, ⟨a, b, e, h1, h2⟩, p, hp => by
    subst e
    rcases List.mem_append.1 hp with hp | hp
    · exact h1.leaf p hp
    · exact h2.leaf p hp
  | _, _, .sl _ _, _, _, ⟨a, e, h⟩, p, hp => by
    subst e
    simp at hp; subst hp
    rcases h with ⟨rfl, _⟩ | ⟨f, es, rfl, _⟩ | ⟨pid, off, len, es, ex, fz, rfl, _⟩ <;> simp [PV.cells]
theorem EP.cells {g : Bool} {hh : Hp} {Q : Nat → Prop} {c : Ty} {y : c.den} {e : PV} (h : EP g (DR hh Q c) y e) : DR hh Q c y e.cells := by
  cases g with
  | true => obtain ⟨cs, rfl, h⟩ := h; exact h
  | false =>
    have h' : DR hh Q c y [e] := h
    rw [(h'.leaf e (by simp)).2.2]; exact h'
theorem DR.wd : ∀ {hh : Hp} {Q : Nat → Prop} {c : Ty} {y : c.den} {ps : List PV}, DR hh Q c y ps → ps.length = c.wd
  | _, _, .int _, _, _, e => by subst e; rfl
  | _, _, .bool, _, _, e => by subst e; rfl
  | _, _, .str, _, _, e => by subst e; rfl
  | _, _, .unit, _, _, e => by subst e; rfl
  | _, _, .pair _ _, _, _, ⟨a, b, e, h1, h2⟩ => by subst e; rw [List.length_append, h1.wd, h2.wd]; rfl
  | _, _, .sl _ _, _, _, ⟨a, e, h⟩ => by subst e; rfl
theorem EP.wd {g : Bool} {hh : Hp} {Q : Nat → Prop} {c : Ty} {y : c.den} {e : PV} (h : EP g (DR hh Q c) y e) : e.cells.length = c.wd := h.cells.wd
theorem elOk_wd {g : Bool} {hh : Hp} {Q : Nat → Prop} {c : Ty} {l : List c.den} {es : List PV} {sz : Nat} (hs : sz = c.wd) (h : L2 (EP g (DR hh Q c)) l es) : Pi.elOk sz es = true := by
  cases h with
  | nil => rfl
  | cons a _ => simp only [Pi.elOk, a.wd]; simp [hs]
theorem EP.agg_inv {α : Type} {D : α → List PV → Prop} {x : α} {e : PV} (h : EP true D x e) : ∃ cs, e = .agg cs ∧ D x cs := h
section
variable {β : Type} {x : β}
theorem decEs_ok {α : Type} {d : V → (α → Option β) → Option β} {X : Cx} {R : α → PV → Prop} (hd : ∀ {v : V} {p : PV} {K : α → Option β}, VR X v p → d v K = some x → ∃ y, K y = some x ∧ R y p) :
    ∀ {vs : List V} {ps : List PV} {K : List α → Option β}, VRL X vs ps → decEs d vs K = some x → ∃ ys, K ys = some x ∧ L2 R ys ps
  | [], _, K, h, e => by rw [h.nil_inv]; exact ⟨[], e, .nil⟩
  | v :: vs, _, K, h, e => by
    obtain ⟨p, qs, rfl, h1, h2⟩ := h.cons_inv
    obtain ⟨y, e1, r1⟩ := hd h1 e
    obtain ⟨ys, e2, r2⟩ := decEs_ok hd h2 e1
    exact ⟨y :: ys, e2, .cons r1 r2⟩
theorem lsub_L2 {α : Type} {R : α → PV → Prop} {l : List α} {es : List PV} (h : L2 R l es) (off len : Nat) : L2 R (lsub l off (nadd off len)) ((es.drop off).take len) := by
  unfold lsub nadd
  rw [show off + len - off = len from by omega]
  exact (h.drop off).take len
theorem idsC_append : ∀ (a b : List V), idsC (a ++ b) = idsC a ++ idsC b
  | [], b => rfl
  | v :: a, b => by
    have ih := idsC_append a b
    cases v <;> simp [idsC, ih]
theorem idsC_mem {id : Nat} {v : V} (h : id ∈ idsC [v]) : id ∈ idsC v.cells := by
  cases v <;> first | exact h | (simp [idsC] at h)
theorem decC_ok : ∀ {c : Ty} {X : Cx} {h : H} {Q : Nat → Prop} {vs : List V} {ps : List PV} {K : c.den → List V → Option β},
    (∀ id b a, h.get id = some b → X.π id = some a → BR X b (some a)) → (∀ id b pid m, id ∈ idsC vs → h.get id = some b → X.π id = some (.blk pid m) → Q pid) → (∀ pid, X.Q pid → Q pid) →
    VRL X vs ps → decC h c vs K = some x → ∃ y r p q, K y r = some x ∧ ps = p ++ q ∧ DX X.h Q X.Q c y p ∧ VRL X r q ∧ ∃ s, vs = s ++ r
  | .int k, X, h, Q, vs, ps, K, hb, hq, hQ, hv, e => by
    unfold decC at e
    split at e
    · replace e := bifY e; obtain ⟨hk, e⟩ := e
      obtain ⟨p, qs, rfl, h1, h2⟩ := hv.cons_inv
      simp only [VR] at h1; subst h1
      have := eq_of_beq hk; subst this
      exact ⟨_, _, [_], qs, e, rfl, rfl, h2, [_], rfl⟩
    · cases e
  | .bool, X, h, Q, vs, ps, K, hb, hq, hQ, hv, e => by
    unfold decC at e
    split at e
    · obtain ⟨p, qs, rfl, h1, h2⟩ := hv.cons_inv
      simp only [VR] at h1; subst h1
      exact ⟨_, _, [_], qs, e, rfl, rfl, h2, [_], rfl⟩
    · cases e
  | .str, X, h, Q, vs, ps, K, hb, hq, hQ, hv, e => by
    unfold decC at e
    split at e
    · obtain ⟨p, qs, rfl, h1, h2⟩ := hv.cons_inv
      simp only [VR] at h1; subst h1
      exact ⟨_, _, [_], qs, e, rfl, rfl, h2, [_], rfl⟩
    · cases e
  | .unit, X, h, Q, vs, ps, K, hb, hq, hQ, hv, e => by
    unfold decC at e
    exact ⟨(), vs, [], ps, e, rfl, rfl, hv, [], rfl⟩
  | .pair a b, X, h, Q, vs, ps, K, hb, hq, hQ, hv, e => by
    unfold decC at e
    obtain ⟨y, r, p, q, e1, rfl, d1, r1, s1, rfl⟩ := decC_ok hb hq hQ hv e
    obtain ⟨z, r', p', q', e2, rfl, d2, r2, s2, rfl⟩ := decC_ok hb (fun id b pid m hi => hq id b pid m (by rw [idsC_append]; exact List.mem_append_right _ hi)) hQ r1 e1
    exact ⟨(y, z), r', p ++ p', q', e2, by simp, ⟨p, p', rfl, d1, d2⟩, r2, s1 ++ s2, by simp⟩
  | .sl g c, X, h, Q, vs, ps, K, hb, hq, hQ, hv, e => by
    unfold decC at e
    split at e
    · obtain ⟨p, qs, rfl, h1, h2⟩ := hv.cons_inv
      simp only [VR] at h1; subst h1
      exact ⟨[], _, [_], qs, e, rfl, ⟨_, rfl, .inl ⟨rfl, rfl⟩⟩, h2, [_], rfl⟩
    · rename_i g' c' l r
      replace e := bifY e; obtain ⟨hg, e⟩ := e
      have := eq_of_beq hg; subst this
      obtain ⟨hc, e⟩ := castK_some e
      subst hc
      obtain ⟨p, qs, rfl, h1, h2⟩ := hv.cons_inv
      refine ⟨l, _, [p], qs, e, rfl, ⟨p, rfl, ?_⟩, h2, [_], rfl⟩
      simp only [VR] at h1
      rcases h1 with h1 | ⟨f, es, h1, _, h3⟩ | ⟨pid, off, len, es, ex, fz, h1, _, h3, h4, h5, h8, h6⟩
      · exact .inl h1
      · exact .inr (.inl ⟨f, es, h1, h3⟩)
      · exact .inr (.inr ⟨pid, off, len, es, ex, fz, h1, hQ _ h3, h4, h5, h8, h6⟩)
    · rename_i f es r
      obtain ⟨p, qs, rfl, h1, h2⟩ := hv.cons_inv
      simp only [VR] at h1
      obtain ⟨f', ps, rfl, _, h3⟩ := h1
      obtain ⟨ys, e1, r1⟩ := decEs_ok (X := Cx.pure) (R := EP g (DP c)) (fun {v p K'} hv e => by
        rcases bifT' e with ⟨hg, e⟩ | ⟨hg, e⟩
        · subst hg
          split at e
          · obtain ⟨cs, rfl, hv'⟩ := hv.agg_inv
            obtain ⟨y, r, p, q, e1, rfl, d1, r1, _⟩ := decC_ok (c := c) (Q := fun _ => True) (fun _ _ _ _ h => (by cases h)) (fun _ _ _ _ _ _ h => (by cases h)) (fun _ _ => trivial) hv' e
            split at e1
            · rw [r1.nil_inv]; exact ⟨y, e1, _, rfl, by rw [List.append_nil]; exact d1.pure⟩
            · cases e1
          · cases e
        · subst hg
          obtain ⟨y, r, p, q, e1, h5, d1, r1, _⟩ := decC_ok (c := c) (Q := fun _ => True) (fun _ _ _ _ h => (by cases h)) (fun _ _ _ _ _ _ h => (by cases h)) (fun _ _ => trivial) (VRL.cons hv .nil) e
          split at e1
          · rw [r1.nil_inv, List.append_nil] at h5; subst h5; exact ⟨y, e1, d1.pure⟩
          · cases e1) h3 e
      exact ⟨ys, _, [_], qs, e1, rfl, ⟨_, rfl, .inr (.inl ⟨f', ps, rfl, r1⟩)⟩, h2, [_], rfl⟩
    · rename_i id r
      split at e
      · rename_i g' c' l ex fz lk hrow
        replace e := bifY e; obtain ⟨hg, e⟩ := e
        have := eq_of_beq hg; subst this
        obtain ⟨hc, e⟩ := castK_some e
        subst hc
        obtain ⟨p, qs, rfl, h1, h2⟩ := hv.cons_inv
        refine ⟨l, _, [p], qs, e, rfl, ⟨p, rfl, ?_⟩, h2, [_], rfl⟩
        simp only [VR] at h1
        cases hpi : X.π id with
        | none => rw [hpi] at h1; exact h1.elim
        | some a =>
          rw [hpi] at h1
          rcases hb _ _ _ hrow hpi with ⟨pid, len, es, fz', k1, k2, k3, k4, k5, k7, k6⟩ | ⟨k1, _, k2⟩ | ⟨es, k1, _, _, k2⟩
          · cases k1
            simp only at h1; subst h1
            refine .inr (.inr ⟨pid, 0, len, es, ex, fz', rfl, hq _ _ _ _ (by simp [idsC]) hrow hpi, k3, by omega, elOk_wd rfl k6, ?_⟩)
            rw [List.drop_zero, List.take_of_length_le (by omega)]
            exact k6
          · cases k1; simp only at h1; exact .inl ⟨h1, k2⟩
          · cases k1; simp only at h1; exact .inr (.inl ⟨true, es, h1, k2⟩)
      · cases e
    · rename_i id off len r
      split at e
      · rename_i g' c' l ex fz lk hrow
        replace e := bifY e; obtain ⟨hg, e⟩ := e
        have := eq_of_beq hg; subst this
        obtain ⟨hle, e⟩ := gd_some e
        obtain ⟨hc, e⟩ := castK_some e
        subst hc
        obtain ⟨p, qs, rfl, h1, h2⟩ := hv.cons_inv
        refine ⟨_, _, [p], qs, e, rfl, ⟨p, rfl, ?_⟩, h2, [_], rfl⟩
        simp only [VR] at h1
        obtain ⟨pid, m, hpi, rfl⟩ := h1
        rcases hb _ _ _ hrow hpi with ⟨pid, len', es, fz', k1, k2, k3, k4, k5, k7, k6⟩ | ⟨k1, _⟩ | ⟨es, k1, _⟩
        · cases k1
          refine .inr (.inr ⟨_, off, len, es, ex, fz', rfl, hq _ _ _ _ (by simp [idsC]) hrow hpi, k3, ?_, elOk_wd rfl k6, ?_⟩)
          · rw [← k6.length]; simpa [nle, nadd, llen] using hle
          · exact lsub_L2 k6 off len
        · cases k1
        · cases k1
      · cases e
    · cases e
/-- without own rows -/
theorem decC0_ok {c : Ty} {X : Cx} {vs : List V} {ps : List PV} {K : c.den → List V → Option β} (hv : VRL X vs ps) (e : decC .lf c vs K = some x) : ∃ y r p q, K y r = some x ∧ ps = p ++ q ∧ DR X.h X.Q c y p ∧ VRL X r q :=
  by
  obtain ⟨y, r, p, q, h1, h2, h3, h4, _⟩ := decC_ok (Q := X.Q) (fun _ _ _ h => (by cases h)) (fun _ _ _ _ _ h => (by cases h)) (fun _ h => h) hv e
  exact ⟨y, r, p, q, h1, h2, h3.same, h4⟩
theorem decE0_ok {g : Bool} {c : Ty} {X : Cx} {v : V} {p : PV} {K : c.den → Option β} (hv : VR X v p) (e : decE .lf g c v K = some x) : ∃ y, K y = some x ∧ EP g (DR X.h X.Q c) y p := by
  unfold decE at e
  rcases bifT' e with ⟨hg, e⟩ | ⟨hg, e⟩
  · subst hg
    split at e
    · obtain ⟨cs, rfl, hv'⟩ := hv.agg_inv
      obtain ⟨y, r, p, q, e1, rfl, d1, r1⟩ := decC0_ok hv' e
      split at e1
      · rw [r1.nil_inv]; exact ⟨y, e1, _, rfl, by rw [List.append_nil]; exact d1⟩
      · cases e1
    · cases e
  · subst hg
    obtain ⟨y, r, p, q, e1, h5, d1, r1⟩ := decC0_ok (VRL.cons hv .nil) e
    split at e1
    · rw [r1.nil_inv, List.append_nil] at h5; subst h5; exact ⟨y, e1, d1⟩
    · cases e1
/-- with own rows -/
theorem decE_ok {g : Bool} {c : Ty} {X : Cx} {h : H} {n : Nat} {Q : Nat → Prop} (r : RH X h n) {v : V} {p : PV} {K : c.den → Option β} (hq : ∀ id pid m, id ∈ idsC v.cells → X.π id = some (.blk pid m) → Q pid) (hQ : ∀ pid, X.Q pid → Q pid) (hv : VR X v p) (e : decE h g c v K = some x) : ∃ y, K y = some x ∧ EP g (DX X.h Q X.Q c) y p := by
  unfold decE at e
  have hb : ∀ id b a, h.get id = some b → X.π id = some a → BR X b (some a) := fun id b a h1 h2 => h2 ▸ r.blk _ _ h1
  rcases bifT' e with ⟨hg, e⟩ | ⟨hg, e⟩
  · subst hg
    split at e
    · obtain ⟨cs, rfl, hv'⟩ := hv.agg_inv
      obtain ⟨y, r, p, q, e1, rfl, d1, r1, _⟩ := decC_ok (Q := Q) hb (fun id b pid m hi _ hp => hq id pid m hi hp) hQ hv' e
      split at e1
      · rw [r1.nil_inv]; exact ⟨y, e1, _, rfl, by rw [List.append_nil]; exact d1⟩
      · cases e1
    · cases e
  · subst hg
    obtain ⟨y, r, p, q, e1, h5, d1, r1, _⟩ := decC_ok (Q := Q) hb (fun id b pid m hi _ hp => hq id pid m (idsC_mem hi) hp) hQ (VRL.cons hv .nil) e
    split at e1
    · rw [r1.nil_inv, List.append_nil] at h5; subst h5; exact ⟨y, e1, d1⟩
    · cases e1
/-- the entries of a slice -/
theorem elemsA_ok {g : Bool} {c : Ty} {X : Cx} {h : H} {n : Nat} (r : RH X h n) {v : V} {p : PV} {K : List c.den → Option β} (hv : VR X v p) (e : elemsA h g c v K = some x) :
    ∃ l es, K l = some x ∧ Pi.elemsOf X.h p = some es ∧ L2 (EP g (DR X.h X.Q c)) l es := by
  unfold elemsA at e
  have hb : ∀ id b a, h.get id = some b → X.π id = some a → BR X b (some a) := fun id b a h1 h2 => h2 ▸ r.blk _ _ h1
  obtain ⟨l, rr, p', q, e1, h5, d1, r1, _⟩ := decC_ok (Q := fun _ => True) hb (fun _ _ _ _ _ _ _ => trivial) (fun _ _ => trivial) (VRL.cons hv .nil) e
  obtain ⟨p0, rfl, d1⟩ := d1
  have : p = p0 := by
    cases q with
    | nil => simpa using h5
    | cons => simp at h5
  subst this
  rcases d1 with ⟨rfl, rfl⟩ | ⟨f, es, rfl, d2⟩ | ⟨pid, off, len, es, ex, fz, rfl, _, d3, d4, _, d5⟩
  · exact ⟨[], [], e1, rfl, .nil⟩
  · exact ⟨l, es, e1, rfl, d2.mono fun _ _ k => k.mono fun _ _ k => k.up⟩
  · refine ⟨l, _, e1, ?_, d5⟩
    unfold Pi.elemsOf
    simp only [d3]
    have : Nat.ble (off + len) es.length = true := by simpa using d4
    rw [this]; rfl
end
end Go.Proofs.YtopoaknleakdcaaGreat.Sv
namespace Go.Proofs.YtopoaknleakdcaaGreat.Sv
open Go.Proofs.YtopoaknleakdcaaGreat.Pi (PV T Hp Blk DF UM PE lget_eq lset_eq)
section
variable {X : Cx} {h : H} {n : Nat} {β : Type} {x : β} {P : Program}
theorem cells_ok : ∀ {c : Ty} {y : c.den} {ps : List PV}, DR X.h X.Q c y ps → VRL X (cells c y) ps
  | .int _, _, _, e => by subst e; exact .cons (by simp [VR]) .nil
  | .bool, _, _, e => by subst e; exact .cons (by simp [VR]) .nil
  | .str, _, _, e => by subst e; exact .cons (by simp [VR]) .nil
  | .unit, _, _, e => by subst e; exact .nil
  | .pair _ _, _, _, ⟨p, q, e, h1, h2⟩ => by subst e; exact (cells_ok h1).append (cells_ok h2)
  | .sl _ _, _, _, ⟨p, e, h⟩ => by
    subst e
    refine .cons ?_ .nil
    simp only [VR]
    rcases h with h | ⟨f, es, h1, h2⟩ | ⟨pid, off, len, es, ex, fz, h1, h2, h3, h4, h8, h5⟩
    · exact .inl h
    · exact .inr (.inl ⟨f, es, h1, by simp, h2⟩)
    · exact .inr (.inr ⟨pid, off, len, es, ex, fz, h1, by simp, h2, h3, h4, h8, h5⟩)
theorem elV_ok {g : Bool} {c : Ty} {y : c.den} {e : PV} (h : EP g (DR X.h X.Q c) y e) : VR X (elV g c y) e := by
  cases g with
  | true => obtain ⟨cs, rfl, h⟩ := h; simp only [elV, cond_true, VR]; exact ⟨cs, rfl, cells_ok h⟩
  | false =>
    have := cells_ok (X := X) (show DR X.h X.Q c y [e] from h)
    unfold elV
    simp only [cond_false]
    have hl := this.length
    split
    · rename_i v hv; rw [hv] at this; obtain ⟨p, qs, h1, h2, _⟩ := this.cons_inv; cases h1; exact h2
    · rename_i hne
      cases hc : cells c y with
      | nil => rw [hc] at hl; simp at hl
      | cons a l => cases l with
        | nil => exact absurd hc (hne _)
        | cons => rw [hc] at hl; simp at hl
theorem elV_cells {c : Ty} {y : c.den} : (elV true c y).cells = cells c y := rfl
theorem RH.ptr (r : RH X h n) {j off : Nat} {p : PV} {cs : List V} {fz lk : Bool} (hv : VR X (.ptr j off) p) (e : h.get j = some (.box cs fz lk)) :
    ∃ pid m ps fz', X.π j = some (.blk pid m) ∧ p = .ptr pid off ∧ X.h.get pid = some (.box ps fz') ∧ (fz = false → fz' = false) ∧ VRL X cs ps := by
  simp only [VR] at hv
  obtain ⟨pid, m, h1, rfl⟩ := hv
  have := r.blk _ _ e
  rw [h1] at this
  obtain ⟨_, _, ps, fz', h2, h3, h4, h5, h6⟩ := this
  cases h2
  exact ⟨pid, m, ps, fz', h1, rfl, h4, h5, h6⟩
theorem RH.rowAt (r : RH X h n) {j pid m : Nat} {g : Bool} {c : Ty} {l : List c.den} {ex fz lk : Bool} (h1 : X.π j = some (.blk pid m)) (e : h.get j = some (.row g c l ex fz lk)) :
    ∃ es fz', X.h.get pid = some (.row es ex fz') ∧ (fz = false → fz' = false) ∧ es.length = m ∧ (ex = false → 0 < m) ∧ L2 (EP g (DR X.h X.Q c)) l es := by
  have := r.blk _ _ e
  rw [h1] at this
  rcases this with ⟨_, _, es, fz', h2, h3, h4, h5, h6, h8, h7⟩ | ⟨h2, _⟩ | ⟨_, h2, _⟩
  · cases h2; exact ⟨es, fz', h4, h5, h6, h8, h7⟩
  · cases h2
  · cases h2
theorem loadA_ok (r : RH X h n) {ty : TypeId} {a : V} {p : PV} {K : V → Option β} (ha : VR X a p) (e : loadA P h ty a K = some x) : ∃ v q, K v = some x ∧ Pi.evLoad P X.h ty p = some (.val q X.h) ∧ VR X v q := by
  unfold loadA at e
  split at e
  · split at e
    · rename_i cs fz lk hg
      obtain ⟨pid, m, ps, fz', h1, rfl, h3, h4, h5⟩ := r.ptr ha hg
      replace e := opt_some e; obtain ⟨v, e1, e⟩ := e
      obtain ⟨q, e2, r2⟩ := partA_ok (h5.drop _) e1
      exact ⟨v, q, e, by unfold Pi.evLoad; simp only [h3]; exact vl_some e2, r2⟩
    · cases e
  · replace e := opt_some e; obtain ⟨v, e1, e⟩ := e
    simp only [VR] at ha
    rcases ha with ⟨ps, rfl, h1⟩ | ⟨pid, i, off, es, ex, fz, el, rfl, h1, h2, h3, h4⟩
    · obtain ⟨q, e2, r2⟩ := partA_ok (h1.mono (Up.pure X)) e1
      exact ⟨v, q, e, vl_some e2, r2⟩
    · obtain ⟨q, e2, r2⟩ := partA_ok h4 e1
      refine ⟨v, q, e, ?_, r2⟩
      unfold Pi.evLoad
      simp only [h2, lget_eq, h3]
      exact vl_some e2
  · rename_i j i off
    split at e
    · rename_i g c l ex fz lk hg
      replace e := ix_some e; obtain ⟨y, hy, e⟩ := e
      replace e := opt_some e; obtain ⟨v, e1, e⟩ := e
      simp only [VR] at ha
      obtain ⟨pid, m, h1, rfl⟩ := ha
      obtain ⟨es, fz', h2, h3, h4, h9, h5⟩ := r.rowAt h1 hg
      obtain ⟨el, hel, hE⟩ := h5.get hy
      obtain ⟨q, e2, r2⟩ := partA_ok ((elV_ok hE).cells.drop off) e1
      refine ⟨v, q, e, ?_, r2⟩
      unfold Pi.evLoad
      simp only [h2, lget_eq, hel]
      exact vl_some e2
    · cases e
  · cases e
theorem set_ex (h : Hp) (i : Nat) (b : Blk) : ∃ h', h.set i b = some h' := ⟨{ h with m := T.put (i + 1) h.m i b }, by
  unfold Pi.Hp.set; rw [show Nat.blt i (i + 1) = true from by simp]; rfl⟩
theorem new_ex (h : Hp) (i : Nat) (b : Blk) (e : h.get i = none) : ∃ h', h.new i b = some h' := by
  unfold Pi.Hp.new Pi.Hp.get at *
  rw [e]; exact set_ex h i b
theorem store_leaf {hs : Hp} {pid i : Nat} {es : List PV} {ex : Bool} {el c1 : PV} {cl : List PV} (A : List PV → Option Pi.R) : (∀ cs, el ≠ .agg cs) → el.cells = [el] → cl = [c1] → (∀ cs, c1 ≠ .agg cs) → (∀ cs, c1 ≠ .tup cs) →
    (match el with
      | .agg cs => A cs
      | _ => (match cl with
        | [c] => bif Nat.beq 0 0 && Nat.beq el.cells.length 1 then (match c with
          | .agg _ => none
          | .tup _ => none
          | c => (hs.set pid (.row (Pi.lset es i c) ex false)).map Pi.R.skip) else none
        | _ => none)) = (hs.set pid (.row (Pi.lset es i c1) ex false)).map .skip := by
  intro h1 h2 h3 h4 h5
  subst h3
  have hb : (Nat.beq 0 0 && Nat.beq el.cells.length 1) = true := by rw [h2]; rfl
  cases el <;> first
    | exact absurd rfl (h1 _)
    | (simp only [hb, cond_true] <;> cases c1 <;> first | rfl | exact absurd rfl (h4 _) | exact absurd rfl (h5 _))
/-- what an operation with a new heap comes to -/
def HOk (X : Cx) (h : H) (n id idP : Nat) (h' : H) (hP' : Hp) (Y : Cx) : Prop := Y.h = hP' ∧ RH Y h' n ∧ St X h id idP Y h'
theorem storeA_ok (r : RH X h n) (hn : n ≤ 1048575) {ty : TypeId} {a w : V} {p q : PV} {K : H → Option β} (ha : VR X a p) (hw : VR X w q) (id idP : Nat) (e : storeA P h ty a w K = some x) :
    ∃ h' hP' Y, K h' = some x ∧ Pi.evStore P X.h ty p q = some (.skip hP') ∧ HOk X h n id idP h' hP' Y := by
  unfold storeA at e
  replace e := opt_some e; obtain ⟨sz, hsz, e⟩ := e
  replace e := bifN e; obtain ⟨hc, e⟩ := e
  have hwc := hw.cells
  rw [hwc.length] at hc
  have idlt : ∀ {j pid m : Nat}, X.π j = some (.blk pid m) → j < 1048575 := fun hp => by have := r.dom _ _ hp; omega
  split at e
  · rename_i j off
    split at e
    · rename_i cs hg
      replace e := bifY e; obtain ⟨hle, e⟩ := e
      obtain ⟨pid, m, ps, fz', h1, rfl, h3, h4, h5⟩ := r.ptr ha hg
      have := h4 rfl; subst this
      have hset : ∃ hP', X.h.set pid (.box (Pi.lput ps off q.cells) false) = some hP' := set_ex _ _ _
      obtain ⟨hP', hset⟩ := hset
      obtain ⟨Y, y1, y2, y3, y4, y5⟩ := r.set (b' := .box (fputL cs off w.cells) false false) (idlt h1) hg trivial rfl h1 h3 (by intros; simp) hset
        (fun Y y1 y2 y3 u => by
          rw [h1]
          refine ⟨pid, m, _, false, rfl, by rw [y3]; exact (h1 ▸ r.blk _ _ hg).own trivial, by rw [y2, (Hp.get_set hset).1, if_pos rfl], fun _ => rfl, (h5.fput hwc off).mono u⟩) idP
      refine ⟨_, hP', Y, e, ?_, y2, y4, y5 id⟩
      unfold Pi.evStore
      simp only [hsz, hc, cond_false, h3]
      rw [← h5.length, hle]
      simp only [cond_true, hset]; rfl
    · cases e
  · rename_i j i off
    split at e
    · rename_i g c l ex hg
      replace e := ix_some e; obtain ⟨y, hy, e⟩ := e
      replace e := bifY e; obtain ⟨hle, e⟩ := e
      simp only [VR] at ha
      obtain ⟨pid, m, h1, rfl⟩ := ha
      obtain ⟨es, fz', h2, h3, h4, h9, h5⟩ := r.rowAt h1 hg
      have := h3 rfl; subst this
      obtain ⟨el, hel, hE⟩ := h5.get hy
      have hcl := cells_ok (X := X) hE.cells
      have hf := hcl.fput hwc off
      obtain ⟨y', r', p', q', e1, h6, d1, r1⟩ := decC0_ok hf e
      split at e1
      · rw [r1.nil_inv, List.append_nil] at h6; subst h6
        -- the new entry
        have key : ∃ el', EP g (DR X.h X.Q c) y' el' ∧ (match el with
            | .agg cs => (X.h.set pid (.row (Pi.lset es i (.agg (Pi.lput cs off q.cells))) ex false)).map Pi.R.skip
            | _ => (match q.cells with
              | [c] => bif Nat.beq off 0 && Nat.beq el.cells.length 1 then (match c with
                | .agg _ => none
                | .tup _ => none
                | c => (X.h.set pid (.row (Pi.lset es i c) ex false)).map .skip) else none
              | _ => none)) = (X.h.set pid (.row (Pi.lset es i el') ex false)).map .skip := by
          cases g with
          | true =>
            obtain ⟨cs, rfl, _⟩ := hE
            exact ⟨.agg (Pi.lput cs off q.cells), ⟨_, rfl, d1⟩, rfl⟩
          | false =>
            have hE' : DR X.h X.Q c y [el] := hE
            have hel1 := hE'.leaf el (by simp)
            have hlen : (cells c y).length = 1 := by rw [hcl.length, hel1.2.2]; rfl
            simp only [Bool.or_eq_false_iff, Bool.not_eq_false', Nat.blt_eq, Nat.beq_eq] at hc
            rw [hlen] at hle
            have hle' : off + sz ≤ 1 := by simpa using hle
            have hoff : off = 0 := by omega
            have hsz1 : sz = 1 := by omega
            subst hoff
            have hq1 : q.cells.length = 1 := by omega
            obtain ⟨c1, hc1⟩ : ∃ c1, q.cells = [c1] := by
              cases hqq : q.cells with
              | nil => rw [hqq] at hq1; simp at hq1
              | cons a t => cases t with
                | nil => exact ⟨a, rfl⟩
                | cons => rw [hqq] at hq1; simp at hq1
            have hput : Pi.lput el.cells 0 q.cells = [c1] := by rw [hel1.2.2, hc1]; rfl
            rw [hput] at d1
            have hl1 := d1.leaf c1 (by simp)
            refine ⟨c1, d1, ?_⟩
            exact store_leaf _ hel1.1 hel1.2.2 hc1 hl1.1 hl1.2.1
        obtain ⟨el', hE', hk⟩ := key
        have hset : ∃ hP', X.h.set pid (.row (Pi.lset es i el') ex false) = some hP' := set_ex _ _ _
        obtain ⟨hP', hset⟩ := hset
        obtain ⟨Y, y1, y2, y3, y4, y5⟩ := r.set (b' := .row g c (lset l i y') ex false false) (idlt h1) hg trivial rfl h1 h2 (by intros; simp) hset
          (fun Y y1 y2 y3 u => by
            rw [h1]
            refine .inl ⟨pid, m, _, false, rfl, by rw [y3]; exact (h1 ▸ r.blk _ _ hg).own trivial, by rw [y2, (Hp.get_set hset).1, if_pos rfl], fun _ => rfl, by rw [lset_eq]; simpa using h4, h9, ?_⟩
            rw [lset_eq]
            exact EDR.mono u (h5.set i hE')) idP
        refine ⟨_, hP', Y, e1, ?_, y2, y4, y5 id⟩
        unfold Pi.evStore
        have hle2 : Nat.ble (off + sz) el.cells.length = true := by rw [← hcl.length]; exact hle
        simp only [hsz, hc, cond_false, h2, lget_eq, hel, hle2, cond_true]
        rw [hset] at hk
        exact hk
      · cases e1
    · cases e
  · cases e
end
end Go.Proofs.YtopoaknleakdcaaGreat.Sv
namespace Go.Proofs.YtopoaknleakdcaaGreat.Sv
open Go.Proofs.YtopoaknleakdcaaGreat.Pi (PV T Hp Blk DF UM PE lget_eq lset_eq)
section
variable {X : Cx} {h : H} {n : Nat} {β : Type} {x : β} {P : Program}
theorem EP.upP {g : Bool} {hh : Hp} {Q : Nat → Prop} {c : Ty} {y : c.den} {e : PV} (h : EP g (DP c) y e) : EP g (DR hh Q c) y e := h.mono fun _ _ k => k.up
theorem pickN_ok {k : Nat} : ∀ {m i : Nat} {K : Nat → Option β}, pickN k m i K = some x → K k = some x ∧ i ≤ k ∧ k < i + m
  | 0, _, _, e => by cases e
  | 1, i, K, e => by
    unfold pickN at e
    obtain ⟨h1, h2⟩ := gd_some e
    have : k = i := by simpa [neq] using h1
    subst this; exact ⟨h2, Nat.le_refl _, by omega⟩
  | m + 2, i, K, e => by
    unfold pickN at e
    rcases br_some e with ⟨h1, h2⟩ | ⟨h1, h2⟩
    · have : k = i := by simpa [neq] using h1
      subst this; exact ⟨h2, Nat.le_refl _, by omega⟩
    · obtain ⟨h3, h4, h5⟩ := pickN_ok h2
      exact ⟨h3, by omega, by omega⟩
theorem fieldAddrA_ok {s : TypeId} {a : V} {p : PV} {f : Nat} {K : V → Option β} (ha : VR X a p) (e : fieldAddrA P s a f K = some x) : ∃ v q, K v = some x ∧ Pi.evFieldAddr P X.h s p f = some (.val q X.h) ∧ VR X v q := by
  unfold fieldAddrA at e
  unfold Pi.evFieldAddr
  split at e
  · rename_i fs hu
    split at e
    · rename_i fd hf
      split at e
      · rename_i sz hsz
        replace e := bifN e; obtain ⟨hc, e⟩ := e
        simp only [hu, hf, hsz, hc, cond_false]
        split at e
        · simp only [VR] at ha
          obtain ⟨pid, m, h1, rfl⟩ := ha
          exact ⟨_, _, e, rfl, by simp only [VR]; exact ⟨pid, m, h1, rfl⟩⟩
        · simp only [VR] at ha
          obtain ⟨pid, m, h1, rfl⟩ := ha
          exact ⟨_, _, e, rfl, by simp only [VR]; exact ⟨pid, m, h1, rfl⟩⟩
        · simp only [VR] at ha
          rcases ha with ⟨ps, rfl, h1⟩ | ⟨pid, i, off, es, ex, fz, el, rfl, h1, h2, h3, h4⟩
          · exact ⟨_, _, e, rfl, by simp only [VR]; exact .inl ⟨_, rfl, h1.drop _⟩⟩
          · refine ⟨_, _, e, rfl, ?_⟩
            simp only [VR]
            exact .inr ⟨pid, i, _, es, ex, fz, el, rfl, h1, h2, h3, by rw [← List.drop_drop]; exact h4.drop _⟩
        · cases e
      · cases e
    · cases e
  · cases e
theorem indexAddrA_ok (r : RH X h n) {ty : TypeId} {a i : V} {p q : PV} {K : V → Option β} (ha : VR X a p) (hi : VR X i q) (e : indexAddrA P h ty a i K = some x) : ∃ v w, K v = some x ∧ Pi.evIndexAddr P X.h ty p q = some (.val w X.h) ∧ VR X v w := by
  unfold indexAddrA at e
  split at e
  · rename_i et hu
    replace e := opt_some e; obtain ⟨sz, hsz, e⟩ := e
    replace e := natV_ok hi e; obtain ⟨k, e, hk⟩ := e
    unfold Pi.evIndexAddr
    simp only [hu, hk, hsz]
    split at e
    · rename_i f g c es
      replace e := ix_some e; obtain ⟨y, hy, e⟩ := e
      replace e := bifY e; obtain ⟨hl, e⟩ := e
      simp only [VR] at ha
      rcases ha with ⟨rfl, rfl⟩ | ⟨f', ps, rfl, _, h1⟩ | ⟨pid, off, len, ps, ex, fz, rfl, _, h1, h2, h3, _, h4⟩
      · simp at hy
      · obtain ⟨el, hel, hE⟩ := h1.get hy
        have hc := (elV_ok (X := Cx.pure) hE.upP).cells
        refine ⟨_, .view el.cells, e, ?_, by simp only [VR]; exact .inl ⟨_, rfl, hc⟩⟩
        simp only [lget_eq, hel]
        rw [← hc.length, hl]; rfl
      · obtain ⟨el, hel, hE⟩ := h4.get hy
        have hc := (elV_ok hE).cells
        have hkl : k < len := by
          have := (List.getElem?_eq_some_iff.1 hel).1
          simp at this; omega
        have hel2 : ps[off + k]? = some el := by
          rw [List.getElem?_take_of_lt hkl, List.getElem?_drop] at hel; exact hel
        refine ⟨_, .ept pid (off + k) 0, e, ?_, by simp only [VR]; exact .inr ⟨pid, off + k, 0, ps, ex, fz, el, rfl, h1, h2, hel2, by simpa using hc⟩⟩
        have hb : Nat.blt k len = true := by simpa using hkl
        simp only [hb, cond_true, h2, lget_eq, hel2]
        rw [← hc.length, hl]; rfl
    · rename_i f es
      replace e := pickN_ok e; obtain ⟨e, _, _⟩ := e
      replace e := opt_some e; obtain ⟨el, hel, e⟩ := e
      replace e := bifY e; obtain ⟨hl, e⟩ := e
      simp only [VR] at ha
      obtain ⟨f', ps, rfl, _, h1⟩ := ha
      obtain ⟨elP, hel2, hE⟩ := h1.lget hel
      refine ⟨_, .view elP.cells, e, ?_, by simp only [VR]; exact .inl ⟨_, rfl, hE.cells⟩⟩
      simp only [hel2]
      rw [← hE.cells.length, hl]; rfl
    · rename_i j
      split at e
      · rename_i g c es ex lk hg
        replace e := gd_some e; obtain ⟨hlt, e⟩ := e
        replace e := bifY e; obtain ⟨hl, e⟩ := e
        have hlt' : k < es.length := by simpa [nlt, llen] using hlt
        simp only [VR] at ha
        have hb := r.blk _ _ hg
        cases hpi : X.π j with
        | none => rw [hpi] at ha; exact ha.elim
        | some t =>
          rw [hpi] at ha hb
          rcases hb with ⟨pid, len, ps, fz', h1, h2, h3, h4, h5, h7, h6⟩ | ⟨h1, _, h2⟩ | ⟨_, h1, _, h2, _⟩
          · cases h1
            simp only at ha; subst ha
            obtain ⟨y, hy⟩ : ∃ y, es[k]? = some y := ⟨es[k], List.getElem?_eq_getElem hlt'⟩
            obtain ⟨el, hel, hE⟩ := h6.get hy
            refine ⟨_, .ept pid (0 + k) 0, e, ?_, by simp only [VR]; exact ⟨pid, len, hpi, by simp⟩⟩
            have hb : Nat.blt k len = true := by rw [← h5, ← h6.length]; simpa using hlt'
            simp only [hb, cond_true, h3, lget_eq, Nat.zero_add, hel]
            rw [hE.wd, hl]; rfl
          · subst h2; simp at hlt'
          · cases h2
      · cases e
    · rename_i j off len
      replace e := gd_some e; obtain ⟨hlt, e⟩ := e
      split at e
      · rename_i g c es ex fz lk hg
        replace e := gd_some e; obtain ⟨hlt2, e⟩ := e
        replace e := bifY e; obtain ⟨hl, e⟩ := e
        simp only [VR] at ha
        obtain ⟨pid, m, hpi, rfl⟩ := ha
        obtain ⟨ps, fz', h3, _, h5, _, h6⟩ := r.rowAt hpi hg
        have hlt' : off + k < es.length := by simpa [nlt, llen, nadd] using hlt2
        obtain ⟨y, hy⟩ : ∃ y, es[off + k]? = some y := ⟨es[off + k], List.getElem?_eq_getElem hlt'⟩
        obtain ⟨el, hel, hE⟩ := h6.get hy
        refine ⟨_, .ept pid (off + k) 0, e, ?_, by simp only [VR]; exact ⟨pid, m, hpi, rfl⟩⟩
        have hb : Nat.blt k len = true := hlt
        simp only [hb, cond_true, h3, lget_eq, hel]
        rw [hE.wd, hl]; rfl
      · cases e
    · cases e
  · rename_i len et hu
    replace e := opt_some e; obtain ⟨sz, hsz, e⟩ := e
    replace e := natV_ok hi e; obtain ⟨k, e, hk⟩ := e
    replace e := pickN_ok e; obtain ⟨e, _, hlt⟩ := e
    unfold Pi.evIndexAddr
    have hb : Nat.blt k len = true := by simpa using hlt
    simp only [hu, hk, hsz, hb, cond_true]
    split at e
    · simp only [VR] at ha
      obtain ⟨pid, m, h1, rfl⟩ := ha
      exact ⟨_, _, e, rfl, by simp only [VR]; exact ⟨pid, m, h1, rfl⟩⟩
    · simp only [VR] at ha
      obtain ⟨pid, m, h1, rfl⟩ := ha
      exact ⟨_, _, e, rfl, by simp only [VR]; exact ⟨pid, m, h1, rfl⟩⟩
    · simp only [VR] at ha
      rcases ha with ⟨ps, rfl, h1⟩ | ⟨pid, i, off, es, ex, fz, el, rfl, h1, h2, h3, h4⟩
      · exact ⟨_, _, e, rfl, by simp only [VR]; exact .inl ⟨_, rfl, h1.drop _⟩⟩
      · refine ⟨_, _, e, rfl, ?_⟩
        simp only [VR]
        exact .inr ⟨pid, i, _, es, ex, fz, el, rfl, h1, h2, h3, by rw [← List.drop_drop]; exact h4.drop _⟩
    · cases e
  · cases e
theorem indexA_ok {ty : TypeId} {a i : V} {p q : PV} {K : V → Option β} (ha : VR X a p) (hi : VR X i q) (e : indexA P ty a i K = some x) : ∃ v w, K v = some x ∧ Pi.evIndex P X.h ty p q = some (.val w X.h) ∧ VR X v w := by
  unfold indexA at e
  split at e
  · rename_i len et cs hu
    replace e := opt_some e; obtain ⟨sz, hsz, e⟩ := e
    replace e := natV_ok hi e; obtain ⟨k, e, hk⟩ := e
    replace e := pickN_ok e; obtain ⟨e, _, hlt⟩ := e
    replace e := opt_some e; obtain ⟨v, hv, e⟩ := e
    obtain ⟨ps, rfl, ha'⟩ := ha.agg_inv
    obtain ⟨w, h1, h2⟩ := partA_ok (ha'.drop _) hv
    refine ⟨v, w, e, ?_, h2⟩
    unfold Pi.evIndex
    have hb : Nat.blt k len = true := by simpa using hlt
    simp only [hu, hk, hb, cond_true, hsz]
    exact vl_some h1
  · rename_i l hu
    replace e := natV_ok hi e; obtain ⟨k, e, hk⟩ := e
    replace e := ix_some e; obtain ⟨b, hb, e⟩ := e
    simp only [VR] at ha; subst ha
    refine ⟨_, _, e, ?_, by simp only [VR]; rfl⟩
    unfold Pi.evIndex
    simp only [hu, hk, lget_eq, hb]; rfl
  · cases e
theorem lenA_ok (r : RH X h n) {ty : TypeId} {a : V} {p : PV} {K : Int → Option β} {ats : Array TypeId} (ht : ats[0]? = some ty) (ha : VR X a p) (e : lenA P h ty a K = some x) (id : Nat) : ∃ m, K m = some x ∧ Pi.pbuiltin P X.h id .len ats [p] = some (.val (.int .i64 m) X.h) := by
  unfold lenA at e
  unfold Pi.pbuiltin
  simp only [ht]
  split at e
  · rename_i hu
    split at e
    · rename_i k g c l lk hg
      simp only [VR] at ha
      obtain ⟨pid, m, h1, rfl⟩ := ha
      have hb := r.blk _ _ hg
      rw [h1] at hb
      obtain ⟨_, _, es, h2, h3, h4, h5⟩ := hb
      cases h2
      refine ⟨_, e, ?_⟩
      simp only [hu, h4, nti, llen, h5.length]
    · cases e
  · rename_i hu; simp only [VR] at ha; subst ha; exact ⟨_, e, by simp only [hu]⟩
  · rename_i hu; exact ⟨_, e, by simp only [hu]⟩
  · rename_i hu; simp only [VR] at ha; subst ha; exact ⟨_, e, by simp only [hu]⟩
  · rename_i f g c l hu
    simp only [VR] at ha
    refine ⟨_, e, ?_⟩
    rcases ha with ⟨rfl, rfl⟩ | ⟨f', ps, rfl, _, h1⟩ | ⟨pid, off, len, ps, ex, fz, rfl, _, h1, h2, h3, _, h4⟩
    · simp only [hu]; rfl
    · simp only [hu, nti, llen, h1.length]
    · simp only [hu, nti, llen, h4.length]
      have : ((ps.drop off).take len).length = len := by simp; omega
      rw [this]
  · rename_i f es hu
    simp only [VR] at ha
    obtain ⟨f', ps, rfl, _, h1⟩ := ha
    exact ⟨_, e, by simp only [hu, h1.length]⟩
  · rename_i j hu
    split at e
    · rename_i g c l ex fz lk hg
      simp only [VR] at ha
      have hb := r.blk _ _ hg
      cases hpi : X.π j with
      | none => rw [hpi] at ha; exact ha.elim
      | some t =>
        rw [hpi] at ha hb
        refine ⟨_, e, ?_⟩
        rcases hb with ⟨pid, len, ps, fz', h1, h2, h3, h4, h5, h7, h6⟩ | ⟨h1, _, h2⟩ | ⟨ps, h1, _, _, h2⟩
        · cases h1; simp only at ha; subst ha
          simp only [hu, nti, llen, h6.length, h5]
        · cases h1; simp only at ha; subst ha; subst h2
          simp only [hu]; rfl
        · cases h1; simp only at ha; subst ha
          simp only [hu, nti, llen, h2.length]
    · cases e
  · rename_i hu
    simp only [VR] at ha
    obtain ⟨pid, m, h1, rfl⟩ := ha
    exact ⟨_, e, by simp only [hu]; rfl⟩
  · rename_i l hu
    simp only [VR] at ha; subst ha
    exact ⟨_, e, by simp only [hu]; rfl⟩
  · cases e
end
end Go.Proofs.YtopoaknleakdcaaGreat.Sv
namespace Go.Proofs.YtopoaknleakdcaaGreat.Sv
open Go.Proofs.YtopoaknleakdcaaGreat.Pi (PV T Hp Blk DF UM PE lget_eq lset_eq)
/-- a new block's two names are free -/
structure Nw (X : Cx) (n id idP : Nat) : Prop where
  pi : X.π id = none
  lt : id < n
  big : n ≤ 1048575
  hp : X.h.get idP = none
  hlt : idP < X.h.nx
section
variable {X : Cx} {h : H} {n id idP : Nat} {β : Type} {x : β} {P : Program}
theorem Nw.small (w : Nw X n id idP) : id < 1048575 := by have := w.lt; have := w.big; omega
/-- what an operation that makes a value and turns the heap comes to -/
def VOk (X : Cx) (h : H) (n id idP : Nat) (K : RA → Option β) (x : β) (o : Option Pi.R) : Prop :=
  ∃ v h' p hP' Y, K (.val v h') = some x ∧ o = some (.val p hP') ∧ HOk X h n id idP h' hP' Y ∧ VR Y v p
theorem VOk.same (r : RH X h n) {K : RA → Option β} {o : Option Pi.R} {v : V} {p : PV} (e : K (.val v h) = some x) (eo : o = some (.val p X.h)) (hv : VR X v p) : VOk X h n id idP K x o :=
  ⟨v, h, p, X.h, X, e, eo, ⟨rfl, r, St.refl _ _ _ _⟩, hv⟩
/-- a new row -/
theorem row_new' (r : RH X h n) (w : Nw X n id idP) {g : Bool} {c : Ty} {l : List c.den} {es : List PV} {ex fz fz' : Bool} (hf : fz = false → fz' = false) (hl : L2 (EP g (DR X.h X.Q c)) l es) (hlen : ex = false → 0 < es.length) :
    ∃ hP' Y, X.h.new idP (.row es ex fz') = some hP' ∧ HOk X h n id idP (hput h id (.row g c l ex fz false)) hP' Y ∧ VR Y (.ow id) (.own idP 0 es.length) ∧ Y.π id = some (.blk idP es.length) := by
  obtain ⟨hP', e⟩ := new_ex X.h idP (.row es ex fz') w.hp
  obtain ⟨Y, y1, y2, y3, y4⟩ := r.new (m := es.length) (b := .row g c l ex fz false) w.small w.lt w.pi w.hlt e (fun Y y1 y2 y3 u =>
    .inl ⟨idP, es.length, es, fz', rfl, (y3 _).2 (.inr rfl), by rw [y2, (Hp.get_new e).2.1, if_pos rfl], hf, rfl, hlen, EDR.mono u hl⟩)
  have hy : Y.π id = some (.blk idP es.length) := by rw [y1]; exact if_pos rfl
  exact ⟨hP', Y, e, ⟨y2, y3, y4⟩, by simp only [VR, hy], hy⟩
theorem row_new (r : RH X h n) (w : Nw X n id idP) {g : Bool} {c : Ty} {l : List c.den} {es : List PV} {ex fz : Bool} (hl : L2 (EP g (DR X.h X.Q c)) l es) (hlen : ex = false → 0 < es.length) :
    ∃ hP' Y, X.h.new idP (.row es ex false) = some hP' ∧ HOk X h n id idP (hput h id (.row g c l ex fz false)) hP' Y ∧ VR Y (.ow id) (.own idP 0 es.length) ∧ Y.π id = some (.blk idP es.length) :=
  row_new' r w (fun _ => rfl) hl hlen
theorem nil_new (r : RH X h n) (w : Nw X n id idP) {g : Bool} {c : Ty} {fz : Bool} :
    ∃ Y, HOk X h n id idP (hput h id (.row g c [] false fz false)) X.h Y ∧ VR Y (.ow id) .nils := by
  obtain ⟨Y, y1, y2, y3, y4⟩ := r.alias (a := .nil) (b := .row g c [] false fz false) w.small w.lt w.pi (by simp) (fun Y u => .inr (.inl ⟨rfl, rfl, rfl⟩)) idP
  have hy : Y.π id = some .nil := by rw [y1]; exact if_pos rfl
  exact ⟨Y, ⟨y2, y3, y4⟩, by simp only [VR, hy]⟩
theorem fz_new (r : RH X h n) (w : Nw X n id idP) {g : Bool} {c : Ty} {l : List c.den} {es : List PV} (hl : L2 (EP g (DP c)) l es) :
    ∃ Y, HOk X h n id idP (hput h id (.row g c l false true false)) X.h Y ∧ VR Y (.ow id) (.lst true es) := by
  obtain ⟨Y, y1, y2, y3, y4⟩ := r.alias (a := .fz es) (b := .row g c l false true false) w.small w.lt w.pi (by simp) (fun Y u => .inr (.inr ⟨es, rfl, rfl, rfl, hl⟩)) idP
  have hy : Y.π id = some (.fz es) := by rw [y1]; exact if_pos rfl
  exact ⟨Y, ⟨y2, y3, y4⟩, by simp only [VR, hy]⟩
theorem EPL.up {g : Bool} {c : Ty} {l : List c.den} {es : List PV} {hh : Hp} {Q : Nat → Prop} (h : L2 (EP g (DP c)) l es) : L2 (EP g (DR hh Q c)) l es := h.mono fun _ _ k => k.upP
theorem all_wd {g : Bool} {hh : Hp} {Q : Nat → Prop} {c : Ty} {l : List c.den} {es : List PV} {sz : Nat} (hs : sz = c.wd) (h : L2 (EP g (DR hh Q c)) l es) : (es.all fun v => Nat.beq v.cells.length sz) = true := by
  induction h with
  | nil => rfl
  | cons a _ ih => simp only [List.all_cons, ih, Bool.and_true, a.wd]; simp [hs]
/-- append, its types known -/
theorem papp_eq {hh : Hp} {st : TypeId} {g : Bool} {c : Ty} {s p : PV} {new : List PV} {l : List c.den} {Q : Nat → Prop} (he : elOkA P st c = true) (hx : Pi.elemsOf hh p = some new) (hn : L2 (EP g (DR hh Q c)) l new) :
    Pi.papp P hh idP st s p = (match s with
      | .nils => bif new.isEmpty then some (.val .nils hh) else bif Nat.ble new.length Pi.smallN then (hh.new idP (.row new false false)).map fun h => .val (.own idP 0 new.length) h else none
      | .lst true es => bif new.isEmpty then some (.val (.lst true es) hh) else bif Nat.ble (es.length + new.length) Pi.smallN && Pi.elOk c.wd es then (hh.new idP (.row (es ++ new) false false)).map fun h => .val (.own idP 0 (es.length + new.length)) h else none
      | .own j off len => match hh.get j with
        | some (.row es ex fz) =>
          bif !Nat.ble (len + new.length) Pi.smallN || !Nat.ble (off + len) es.length || !Pi.elOk c.wd es then none else
          bif ex then
            bif Nat.ble (off + len + new.length) es.length then
              (bif fz then none else (hh.set j (.row (Pi.lput es (off + len) new) true false)).map fun h => .val (.own j off (len + new.length)) h)
            else (hh.new idP (.row ((es.drop off).take len ++ new) false false)).map fun h => .val (.own idP 0 (len + new.length)) h
          else bif Nat.beq len es.length && Nat.beq off 0 && Nat.blt 0 len then
            match hh.set j .dead with
            | some h => (h.new idP (.row (es ++ new) false fz)).map fun h => .val (.own idP 0 (len + new.length)) h
            | none => none
          else none
        | _ => none
      | _ => none) := by
  unfold elOkA at he
  unfold Pi.papp
  split at he
  · rename_i e hu
    split at he
    · rename_i ti z hti hz
      simp only [Bool.and_eq_true, Nat.beq_eq] at he
      obtain ⟨⟨⟨h1, h2⟩, h3⟩, h4⟩ := he
      have ht : Pi.tsize P e = some ti.size := by unfold Pi.tsize; rw [hti]; rfl
      have hz' : z.length.beq ti.size = true := by simp [h3]
      simp only [hu, ht, hti, hx, hz]
      rw [all_wd h1 hn, show Pi.smallN = 1048576 from rfl, h2, hz', h4, h1]
      rfl
    · cases he
  · cases he
theorem isEmptyF {α : Type} {l : List α} (h : l ≠ []) : l.isEmpty = false := by cases l <;> simp at h ⊢
theorem exl_ne {f : Bool} {v : V} {vs : List V} {p : PV} {es : List PV} {hh : Hp} (hv : VR X (.exl f (v :: vs)) p) (e : Pi.elemsOf hh p = some es) : es ≠ [] := by
  simp only [VR] at hv
  obtain ⟨f', ps, rfl, _, h1⟩ := hv
  obtain ⟨q, qs, rfl, _, _⟩ := h1.cons_inv
  cases e; simp
theorem appA_ok (r : RH X h n) (w : Nw X n id idP) {st : TypeId} {s a : V} {sP p : PV} {K : RA → Option β} (hs : VR X s sP) (ha : VR X a p) (e : appA P h id st s a K = some x) : VOk X h n id idP K x (Pi.papp P X.h idP st sP p) := by
  unfold appA at e
  replace e := opt_some e; obtain ⟨⟨g, c⟩, hel, e⟩ := e
  replace e := bifY e; obtain ⟨he, e⟩ := e
  replace e := elemsA_ok r ha e; obtain ⟨new, newP, e, hx, hnew⟩ := e
  rw [papp_eq he hx hnew]
  have sm : Pi.smallN = 1048576 := rfl
  -- into nothing
  have into : ∀ {fz : Bool}, newP.length ≤ 1048576 → K (.val (.ow id) (hput h id (.row g c new false fz false))) = some x → VOk X h n id idP K x (bif newP.isEmpty then some (.val .nils X.h) else bif Nat.ble newP.length Pi.smallN then (X.h.new idP (.row newP false false)).map fun h => .val (.own idP 0 newP.length) h else none) := by
    intro fz hle e
    by_cases h0 : newP = []
    · subst h0
      have := hnew.nil_inv'; subst this
      obtain ⟨Y, y1, y2⟩ := nil_new (fz := fz) (g := g) (c := c) r w
      exact ⟨_, _, .nils, X.h, Y, e, rfl, y1, y2⟩
    · have hpos : 0 < newP.length := List.length_pos_iff.2 h0
      obtain ⟨hP', Y, y1, y2, y3, _⟩ := row_new (fz := fz) r w hnew fun _ => hpos
      refine ⟨_, _, _, hP', Y, e, ?_, y2, y3⟩
      rw [isEmptyF h0, sm, show Nat.ble newP.length 1048576 = true from by simpa using hle, y1]; rfl
  split at e
  · simp only [VR] at hs; subst hs
    replace e := gd_some e; obtain ⟨hle, e⟩ := e
    exact into (by rw [← hnew.length]; simpa [nle, llen] using hle) e
  · rename_i g' c' l
    replace e := bifY e; obtain ⟨hg, e⟩ := e
    have := eq_of_beq hg; subst this
    replace e := gd_some e; obtain ⟨hle, e⟩ := e
    replace e := castK_some e; obtain ⟨hc, e⟩ := e
    subst hc
    have hle' : l.length + new.length ≤ 1048576 := by simpa [nle, llen, nadd] using hle
    split at e
    · have hne := exl_ne ha hx
      have hpos : 0 < newP.length := List.length_pos_iff.2 hne
      simp only [VR] at hs
      rcases hs with ⟨rfl, rfl⟩ | ⟨f', ps, rfl, hf, h1⟩ | ⟨pid, off, len, ps, ex, fz, rfl, hf, h1, h2, h3, h8, h4⟩
      · exact into (by rw [← hnew.length]; simpa using hle') e
      · have := hf trivial; subst this
        obtain ⟨hP', Y, y1, y2, y3, _⟩ := row_new (fz := false) r w ((EPL.up h1).append hnew) fun _ => by simp; omega
        refine ⟨_, _, _, hP', Y, e, ?_, y2, y3⟩
        have h5 : Nat.ble (ps.length + newP.length) 1048576 = true := by rw [← h1.length, ← hnew.length]; simpa using hle'
        dsimp only
        rw [isEmptyF hne, sm, h5, elOk_wd rfl (EPL.up (hh := X.h) (Q := X.Q) h1), y1]
        simp
      · obtain ⟨rfl, hend⟩ := hf trivial
        obtain ⟨hP', Y, y1, y2, y3, _⟩ := row_new (fz := false) r w (h4.append hnew) fun _ => by simp; omega
        refine ⟨_, _, _, hP', Y, e, ?_, y2, y3⟩
        have hl4 := h4.length
        have hlen : ((ps.drop off).take len).length = len := by simp; omega
        have h5 : Nat.ble (len + newP.length) 1048576 = true := by rw [← hlen, ← hl4, ← hnew.length]; simpa using hle'
        have h6 : Nat.ble (off + len) ps.length = true := by simpa using h3
        have h7 : Nat.ble (off + len + newP.length) ps.length = false := by
          cases hb : Nat.ble (off + len + newP.length) ps.length with
          | false => rfl
          | true => have := Nat.le_of_ble_eq_true hb; omega
        simp only [h2, sm, h5, h6, h8, h7, Bool.not_true, Bool.or_false, cond_false, cond_true, y1]
        simp [hlen]
    · cases e
  · simp only [VR] at hs
    obtain ⟨f', ps, rfl, hf, h1⟩ := hs
    have := h1.nil_inv; subst this
    have := hf trivial; subst this
    replace e := gd_some e; obtain ⟨hle, e⟩ := e
    have hle' : newP.length ≤ 1048576 := by rw [← hnew.length]; simpa [nle, llen] using hle
    by_cases h0 : newP = []
    · subst h0
      have := hnew.nil_inv'; subst this
      obtain ⟨Y, y1, y2⟩ := fz_new (g := g) (c := c) (l := []) r w .nil
      exact ⟨_, _, _, X.h, Y, e, rfl, y1, y2⟩
    · have hpos : 0 < newP.length := List.length_pos_iff.2 h0
      obtain ⟨hP', Y, y1, y2, y3, _⟩ := row_new (fz := true) r w hnew fun _ => hpos
      refine ⟨_, _, _, hP', Y, e, ?_, y2, y3⟩
      have h5 : Nat.ble (([] : List PV).length + newP.length) 1048576 = true := by simpa using hle'
      dsimp only
      rw [isEmptyF h0, sm, h5, show Pi.elOk c.wd [] = true from rfl, List.nil_append, y1]
      simp
  · rename_i j
    split at e
    · rename_i g' c' l ex fz lk hrow
      replace e := bifN e; obtain ⟨hg, e⟩ := e
      simp only [Bool.or_eq_false_iff, Bool.not_eq_false'] at hg
      obtain ⟨hg, hlk⟩ := hg
      subst hlk
      have := eq_of_beq hg; subst this
      replace e := castK_some e; obtain ⟨hc, e⟩ := e
      subst hc
      replace e := gd_some e; obtain ⟨hle, e⟩ := e
      have hle' : l.length + new.length ≤ 1048576 := by simpa [nle, llen, nadd] using hle
      simp only [VR] at hs
      have hb := r.blk _ _ hrow
      cases hpi : X.π j with
      | none => rw [hpi] at hs; exact hs.elim
      | some t =>
        rw [hpi] at hs hb
        have hj : j < 1048575 := by have := r.dom _ _ hpi; have := w.big; omega
        rcases bifT' e with ⟨hex, e⟩ | ⟨hex, e⟩
        · subst hex
          split at e
          · have hne := exl_ne ha hx
            have hpos : 0 < newP.length := List.length_pos_iff.2 hne
            rcases hb with ⟨pid, len, ps, fz', h1, h2, h3, h4, h5, h7, h6⟩ | ⟨_, h1, _⟩ | ⟨_, _, h1, _⟩
            · cases h1
              simp only at hs; subst hs
              obtain ⟨hP', Y, y1, y2, y3, _⟩ := row_new (fz := false) r w (h6.append hnew) fun _ => by simp; omega
              refine ⟨_, _, _, hP', Y, e, ?_, y2, y3⟩
              have k5 : Nat.ble (len + newP.length) 1048576 = true := by rw [← h5, ← h6.length, ← hnew.length]; simpa using hle'
              have k6 : Nat.ble (0 + len) ps.length = true := by rw [h5]; simp
              have k7 : Nat.ble (0 + len + newP.length) ps.length = false := by
                cases hb : Nat.ble (0 + len + newP.length) ps.length with
                | false => rfl
                | true => have := Nat.le_of_ble_eq_true hb; omega
              have k8 : (ps.drop 0).take len = ps := by rw [List.drop_zero, List.take_of_length_le (by omega)]
              simp only [h3, sm, k5, k6, elOk_wd rfl h6, k7, k8, Bool.not_true, Bool.or_false, cond_false, cond_true, y1]
              simp [h5]
            · cases h1
            · cases h1
          · cases e
        · subst hex
          obtain ⟨rd, sd⟩ := r.dead hj hrow rfl idP
          rcases hb with ⟨pid, len, ps, fz', h1, h2, h3, h4, h5, h7, h6⟩ | ⟨h1, _, h2⟩ | ⟨ps, h1, _, h2, h3⟩
          · cases h1
            simp only at hs; subst hs
            have hpos := h7 rfl
            have k5 : Nat.ble (len + newP.length) 1048576 = true := by rw [← h5, ← h6.length, ← hnew.length]; simpa using hle'
            have k6 : Nat.ble (0 + len) ps.length = true := by rw [h5]; simp
            have k9 : (Nat.beq len ps.length && Nat.beq 0 0 && Nat.blt 0 len) = true := by rw [h5]; simp [hpos]
            obtain ⟨hD, eD⟩ := set_ex X.h pid .dead
            obtain ⟨Y0, z1, z2, z3, z4, z5⟩ := r.set (b' := .dead) hj hrow trivial rfl hpi h3 (by intros; simp) eD (fun _ _ _ _ _ => trivial) idP
            have w0 : Nw Y0 n id idP := ⟨by rw [z1]; exact w.pi, w.lt, w.big, by
              rw [z2, (Hp.get_set eD).1]
              by_cases hq : idP = pid
              · subst hq; have := w.hp; rw [h3] at this; cases this
              · rw [if_neg hq]; exact w.hp, by rw [z2, (Hp.get_set eD).2]; exact w.hlt⟩
            have hmix : L2 (EP g (DR Y0.h Y0.Q c')) (l ++ new) (ps ++ newP) := (EDR.mono (z5 id).up h6).append (EDR.mono (z5 id).up hnew)
            obtain ⟨hP', Y, y1, y2, y3, _⟩ := row_new' z4 w0 h4 hmix fun _ => by simp; omega
            refine ⟨_, _, _, hP', Y, e, ?_, ⟨y2.1, y2.2.1, (z5 id).trans y2.2.2⟩, y3⟩
            rw [z2] at y1
            simp only [h3, sm, k5, k6, elOk_wd rfl h6, k9, Bool.not_true, Bool.or_false, cond_false, cond_true, eD, y1]
            simp [h5]
          · cases h1
            simp only at hs; subst hs; subst h2
            by_cases h0 : newP = []
            · subst h0
              have := hnew.nil_inv'; subst this
              obtain ⟨Y, y1, y2⟩ := nil_new (fz := fz) (g := g) (c := c') rd w
              exact ⟨_, _, .nils, X.h, Y, e, rfl, ⟨y1.1, y1.2.1, (sd id).trans y1.2.2⟩, y2⟩
            · have hpos : 0 < newP.length := List.length_pos_iff.2 h0
              obtain ⟨hP', Y, y1, y2, y3, _⟩ := row_new (fz := fz) rd w hnew fun _ => hpos
              refine ⟨_, _, _, hP', Y, e, ?_, ⟨y2.1, y2.2.1, (sd id).trans y2.2.2⟩, y3⟩
              rw [isEmptyF h0, sm, show Nat.ble newP.length 1048576 = true from by rw [← hnew.length]; simpa using hle', y1]; rfl
          · cases h1
            simp only at hs; subst hs; subst h2
            by_cases h0 : newP = []
            · subst h0
              have := hnew.nil_inv'; subst this
              obtain ⟨Y, y1, y2⟩ := fz_new (g := g) (c := c') (l := l) rd w h3
              refine ⟨_, _, _, X.h, Y, e, rfl, ⟨?_, ?_, ?_⟩, y2⟩
              · exact y1.1
              · have := y1.2.1; rw [show lapp l [] = l from List.append_nil l]; exact this
              · have := y1.2.2; rw [show lapp l [] = l from List.append_nil l]; exact (sd id).trans this
            · obtain ⟨hP', Y, y1, y2, y3, _⟩ := row_new (fz := true) rd w ((EPL.up h3).append hnew) fun _ => by simp; have := List.length_pos_iff.2 h0; omega
              refine ⟨_, _, _, hP', Y, e, ?_, ⟨y2.1, y2.2.1, (sd id).trans y2.2.2⟩, y3⟩
              have h5 : Nat.ble (ps.length + newP.length) 1048576 = true := by rw [← h3.length, ← hnew.length]; simpa using hle'
              dsimp only
              rw [isEmptyF h0, sm, h5, elOk_wd rfl (EPL.up (hh := X.h) (Q := X.Q) h3), y1]
              simp
    · cases e
  · cases e
end
end Go.Proofs.YtopoaknleakdcaaGreat.Sv
namespace Go.Proofs.YtopoaknleakdcaaGreat.Sv
open Go.Proofs.YtopoaknleakdcaaGreat.Pi (PV T Hp Blk DF UM PE lget_eq lset_eq)
section
variable {X : Cx} {h : H} {n id idP : Nat} {β : Type} {x : β} {P : Program}
/-! Maps -/
theorem kceq_ok {k : Ty} {d : TypeDesc} {e : k.den → k.den → Bool} {a b : k.den} {p q : PV} (hd : keyOk k d = true) (he : keq k = some e) (ha : DP k a [p]) (hb : DP k b [q]) : Pi.kceq d p q = some (e a b) := by
  cases k with
  | int kk =>
    cases d <;> simp [keyOk] at hd
    cases he
    simp only [DP, List.cons.injEq, and_true] at ha hb
    subst ha; subst hb
    simp [Pi.kceq, ieq]
  | bool =>
    cases d <;> simp [keyOk] at hd
    cases he
    simp only [DP, List.cons.injEq, and_true] at ha hb
    subst ha; subst hb
    simp [Pi.kceq, beq]
  | str =>
    cases d <;> simp [keyOk] at hd
    cases he
    simp only [DP, List.cons.injEq, and_true] at ha hb
    subst ha; subst hb
    simp [Pi.kceq, seq]
  | unit => cases he
  | pair => cases he
  | sl => cases he
theorem keyDesc_ok {k : Ty} {d : TypeDesc} (hd : keyOk k d = true) : Pi.keyDesc d = true := by
  cases k <;> cases d <;> simp [keyOk] at hd <;> rfl
variable {k : Ty} {g : Bool} {c : Ty} {d : TypeDesc} {e : k.den → k.den → Bool}
theorem mget_ok (hd : keyOk k d = true) (he : keq k = some e) {a : k.den} {p : PV} (ha : DP k a [p]) : ∀ {l : List (k.den × c.den)} {es : List (PV × PV)}, L2 (MR X k g c) l es →
    (mget e l a = none ∧ Pi.mfind d es p = some none) ∨ ∃ y v, mget e l a = some y ∧ Pi.mfind d es p = some (some v) ∧ EP g (DR X.h X.Q c) y v
  | _, _, .nil => .inl ⟨rfl, rfl⟩
  | (a1, y1) :: l, (p1, v1) :: es, .cons h t => by
    have hk := kceq_ok hd he ha h.1
    unfold mget Pi.mfind
    rw [hk]
    cases hb : e a a1 with
    | true => exact .inr ⟨y1, v1, rfl, rfl, h.2⟩
    | false => simpa using mget_ok hd he ha t
theorem mput_ok (hd : keyOk k d = true) (he : keq k = some e) {a : k.den} {p : PV} (ha : DP k a [p]) {y : c.den} {v : PV} (hy : EP g (DR X.h X.Q c) y v) : ∀ {l : List (k.den × c.den)} {es : List (PV × PV)}, L2 (MR X k g c) l es →
    ∃ es', Pi.mput d es p v = some es' ∧ L2 (MR X k g c) (mput e l a y) es'
  | _, _, .nil => ⟨[(p, v)], rfl, .cons ⟨ha, hy⟩ .nil⟩
  | (a1, y1) :: l, (p1, v1) :: es, .cons h t => by
    have hk := kceq_ok hd he ha h.1
    unfold mput Pi.mput
    rw [hk]
    cases hb : e a a1 with
    | true => exact ⟨_, rfl, .cons ⟨ha, hy⟩ t⟩
    | false =>
      obtain ⟨es', h1, h2⟩ := mput_ok hd he ha hy t
      exact ⟨(p1, v1) :: es', by simp [h1], .cons h h2⟩
theorem mdel_ok (hd : keyOk k d = true) (he : keq k = some e) {a : k.den} {p : PV} (ha : DP k a [p]) : ∀ {l : List (k.den × c.den)} {es : List (PV × PV)}, L2 (MR X k g c) l es →
    ∃ es', Pi.mdel d es p = some es' ∧ L2 (MR X k g c) (mdel e l a) es'
  | _, _, .nil => ⟨[], rfl, .nil⟩
  | (a1, y1) :: l, (p1, v1) :: es, .cons h t => by
    have hk := kceq_ok hd he ha h.1
    unfold mdel Pi.mdel
    rw [hk]
    cases hb : e a a1 with
    | true => exact ⟨_, rfl, t⟩
    | false =>
      obtain ⟨es', h1, h2⟩ := mdel_ok hd he ha t
      exact ⟨(p1, v1) :: es', by simp [h1], .cons h h2⟩
theorem DP.key {hh : Hp} {Q : Nat → Prop} (he : keq k = some e) {a : k.den} {ps : List PV} (h : DR hh Q k a ps) : DP k a ps := by
  cases k with
  | int | bool | str => exact h
  | unit => cases he
  | pair => cases he
  | sl => cases he
end
section
variable {X : Cx} {h : H} {n id idP : Nat} {β : Type} {x : β} {P : Program}
theorem keyA_ok (r : RH X h n) {ty : TypeId} {m v : V} {mP p : PV} {K : (j : Nat) → (k : Ty) → (g : Bool) → (c : Ty) → List (k.den × c.den) → Bool → (k.den → k.den → Bool) → k.den → Option β}
    (hm : VR X m mP) (hv : VR X v p) (e : keyA P ty m v h K = some x) :
    ∃ j k g c l lk f a kt et d pid m' es, K j k g c l lk f a = some x ∧ m = .mp j ∧ h.get j = some (.mp k g c l lk) ∧ X.π j = some (.blk pid m') ∧ mP = .mp pid ∧ X.h.get pid = some (.mp es) ∧ L2 (MR X k g c) l es ∧
      P.underlying ty = some (.map kt et) ∧ P.underlying kt = some d ∧ keyOk k d = true ∧ keq k = some f ∧ DP k a [p] := by
  unfold keyA at e
  split at e
  · rename_i kt et j hu
    split at e
    · rename_i d k g c l lk hd hg
      replace e := bifY e; obtain ⟨hk, e⟩ := e
      replace e := opt_some e; obtain ⟨f, hf, e⟩ := e
      replace e := decC0_ok (VRL.cons hv .nil) e; obtain ⟨a, rr, p', q, e, h5, d1, r1⟩ := e
      split at e
      · rw [r1.nil_inv, List.append_nil] at h5
        simp only [VR] at hm
        obtain ⟨pid, m', hpi, rfl⟩ := hm
        have hb := r.blk _ _ hg
        rw [hpi] at hb
        obtain ⟨_, _, es, h2, h3, h4, h6⟩ := hb
        cases h2
        exact ⟨j, k, g, c, l, lk, f, a, kt, et, d, _, m', es, e, rfl, hg, hpi, rfl, h4, h6, hu, hd, hk, hf, DP.key hf (h5 ▸ d1)⟩
      · cases e
    · cases e
  · cases e
theorem lookupA_ok (r : RH X h n) {ty : TypeId} {m k : V} {mP p : PV} {ok : Bool} {K : V → Option β} (hm : VR X m mP) (hk : VR X k p) (e : lookupA P h ty m k ok K = some x) :
    ∃ v q, K v = some x ∧ Pi.evLookup P X.h ty mP p ok = some (.val q X.h) ∧ VR X v q := by
  unfold lookupA at e
  split at e
  · simp only [VR] at hm; subst hm
    split at e
    · rename_i kt et hu
      split at e
      · rename_i d z hd hz
        replace e := bifY e; obtain ⟨hkd, e⟩ := e
        obtain ⟨zP, h1, h2⟩ := zeroElA_ok (X := X) hz
        refine ⟨_, bif ok then .tup [zP, .bool false] else zP, e, ?_, ?_⟩
        · unfold Pi.evLookup
          simp only [hu, Pi.mapOf, hd, hkd, Bool.not_true, cond_false, Pi.mfind, h1]
          rfl
        · cases ok
          · exact h2
          · simp only [cond_true, VR]; exact ⟨_, rfl, .cons h2 (.cons (by simp [VR]) .nil)⟩
      · cases e
    · cases e
  · rename_i hne
    replace e := keyA_ok r hm hk e
    obtain ⟨j, kk, g, c, l, lk, f, a, kt, et, d, pid, m', es, e, rfl, hg, hpi, rfl, h4, h6, hu, hd, hko, hf, hdp⟩ := e
    simp only [hu] at e
    replace e := opt_some e; obtain ⟨z, hz, e⟩ := e
    obtain ⟨zP, h1, h2⟩ := zeroElA_ok (X := X) hz
    replace e := decE0_ok h2 e; obtain ⟨y, e, hy⟩ := e
    have fin : ∀ {yv : c.den} {vP : PV} {b : Bool}, EP g (DR X.h X.Q c) yv vP → VR X (bif ok then V.tup [elV g c yv, .bool b] else elV g c yv) (bif ok then PV.tup [vP, .bool b] else vP) := by
      intro yv vP b hE
      cases ok
      · exact elV_ok hE
      · simp only [cond_true, VR]; exact ⟨_, rfl, .cons (elV_ok hE) (.cons (by simp [VR]) .nil)⟩
    rcases mget_ok (d := d) hko hf hdp h6 with ⟨m1, m2⟩ | ⟨y', v', m1, m2, m3⟩
    · refine ⟨_, _, e, ?_, by rw [m1]; exact fin hy⟩
      unfold Pi.evLookup
      simp only [hu, Pi.mapOf, h4, hd, keyDesc_ok hko, Bool.not_true, cond_false, m2, h1]
      rfl
    · refine ⟨_, _, e, ?_, by rw [m1]; exact fin m3⟩
      unfold Pi.evLookup
      simp only [hu, Pi.mapOf, h4, hd, keyDesc_ok hko, Bool.not_true, cond_false, m2]
      rfl
theorem RH.mapSet (r : RH X h n) (hn : n ≤ 1048575) {j pid m : Nat} {k : Ty} {g : Bool} {c : Ty} {l l' : List (k.den × c.den)} {es es' : List (PV × PV)} (hg : h.get j = some (.mp k g c l false)) (hpi : X.π j = some (.blk pid m)) (h4 : X.h.get pid = some (.mp es)) (hl : L2 (MR X k g c) l' es') :
    ∃ hP' Y, X.h.set pid (.mp es') = some hP' ∧ ∀ i iP, HOk X h n i iP (hput h j (.mp k g c l' false)) hP' Y := by
  obtain ⟨hP', e⟩ := set_ex X.h pid (.mp es')
  have hj : j < 1048575 := by have := r.dom _ _ hpi; omega
  have key : ∀ iP, ∃ Y : Cx, Y.π = X.π ∧ Y.h = hP' ∧ Y.O = X.O ∧ RH Y (hput h j (.mp k g c l' false)) n ∧ ∀ i, St X h i iP Y (hput h j (.mp k g c l' false)) := fun iP =>
    r.set (b' := .mp k g c l' false) hj hg trivial rfl hpi h4 (by intros; simp) e (fun Y y1 y2 y3 u => by
      rw [hpi]
      exact ⟨pid, m, es', rfl, by rw [y3]; exact (hpi ▸ r.blk _ _ hg).own trivial, by rw [y2, (Hp.get_set e).1, if_pos rfl], hl.mono fun _ _ m => ⟨m.1, m.2.mono fun _ _ k => DR.mono u.rows k⟩⟩) iP
  obtain ⟨Y, y1, y2, y3, y4, y5⟩ := key 0
  refine ⟨hP', Y, e, fun i iP => ⟨y2, y4, ?_⟩⟩
  obtain ⟨Y', z1, z2, z3, z4, z5⟩ := key iP
  have : Y' = Y := by
    cases Y; cases Y'
    simp only at y1 y2 y3 z1 z2 z3
    subst y1; subst y2; subst y3; subst z1; subst z2; subst z3; rfl
  subst this; exact z5 i
theorem mapUpdateA_ok (r : RH X h n) (hn : n ≤ 1048575) {ty : TypeId} {m k v : V} {mP p q : PV} {K : H → Option β} (hm : VR X m mP) (hk : VR X k p) (hv : VR X v q) (id idP : Nat) (e : mapUpdateA P h ty m k v K = some x) :
    ∃ h' hP' Y, K h' = some x ∧ Pi.evMapUpdate P X.h ty mP p q = some (.skip hP') ∧ HOk X h n id idP h' hP' Y := by
  unfold mapUpdateA at e
  replace e := keyA_ok r hm hk e
  obtain ⟨j, kk, g, c, l, lk, f, a, kt, et, d, pid, m', es, e, rfl, hg, hpi, rfl, h4, h6, hu, hd, hko, hf, hdp⟩ := e
  replace e := bifN e; obtain ⟨hlk, e⟩ := e
  subst hlk
  replace e := decE0_ok hv e; obtain ⟨y, e, hy⟩ := e
  obtain ⟨es', p1, p2⟩ := mput_ok (d := d) hko hf hdp hy h6
  obtain ⟨hP', Y, e1, y1⟩ := r.mapSet hn hg hpi h4 p2
  refine ⟨_, hP', Y, e, ?_, y1 id idP⟩
  unfold Pi.evMapUpdate
  simp only [hu, hd, keyDesc_ok hko, Bool.not_true, cond_false, h4, p1, e1]
  rfl

/-! Built-in functions -/
theorem foldA_ok {f : Int → Int → Int} {F : Int → Int → Int} (hf : ∀ a b, f a b = F a b) {k : IntKind} : ∀ {m : Int} {vs : List V} {ps : List PV} {K : Int → Option β}, VRL X vs ps → foldA f k m vs K = some x → ∃ r, K r = some x ∧ Pi.foldInt F m ps k = some r
  | m, [], _, K, h, e => by rw [h.nil_inv]; exact ⟨m, e, rfl⟩
  | m, v :: vs, _, K, h, e => by
    obtain ⟨p, qs, rfl, h1, h2⟩ := h.cons_inv
    cases v with
    | int k' y =>
      unfold foldA at e
      replace e := bifY e; obtain ⟨hk, e⟩ := e
      simp only [VR] at h1; subst h1
      obtain ⟨r, e1, r1⟩ := foldA_ok hf h2 e
      refine ⟨r, e1, ?_⟩
      have hk' : (k' == k) = true := by rw [beq_iff_eq] at hk ⊢; exact hk.symm
      unfold Pi.foldInt
      rw [hk', ← hf]; exact r1
    | _ => simp [foldA] at e
theorem lcpy_L2 {α : Type} {R : α → PV → Prop} {l new : List α} {es nP : List PV} (h : L2 R l es) (k : L2 R new nP) (off m : Nat) : L2 R (lcpy l off new m) (Pi.lput es off (nP.take m)) := by
  unfold lcpy Pi.lput
  have := (k.take m).length
  rw [this]
  exact (h.take off).append ((k.take m).append (h.drop _))
theorem lput_len {es x : List PV} {off : Nat} (h : off + x.length ≤ es.length) : (Pi.lput es off x).length = es.length := by
  unfold Pi.lput; simp; omega
theorem builtinA_ok (r : RH X h n) (w : Nw X n id idP) {b : Builtin} {ats : Array TypeId} {args : List V} {ps : List PV} {K : RA → Option β} (ha : VRL X args ps) (e : builtinA P h id b ats args K = some x) :
    VOk X h n id idP K x (Pi.pbuiltin P X.h idP b ats ps) ∨ (∃ v p, K (.pan v) = some x ∧ Pi.pbuiltin P X.h idP b ats ps = some (.pan p) ∧ VR X v p) ∨ (K .rcv = some x ∧ Pi.pbuiltin P X.h idP b ats ps = some .rcv) := by
  unfold builtinA at e
  split at e
  · -- len
    split at e
    · rename_i a t ht
      obtain ⟨p, qs, rfl, h1, h2⟩ := ha.cons_inv
      rw [h2.nil_inv]
      obtain ⟨m, e1, e2⟩ := lenA_ok r ht h1 e idP
      exact .inl (.same r e1 e2 (by simp [VR]))
    · cases e
  · -- cap
    split at e
    · rename_i a t ht
      obtain ⟨p, qs, rfl, h1, h2⟩ := ha.cons_inv
      rw [h2.nil_inv]
      split at e
      · rename_i et j hu
        split at e
        · rename_i g c l fz lk hg
          simp only [VR] at h1
          cases hpi : X.π j with
          | none => rw [hpi] at h1; exact h1.elim
          | some tt =>
            rw [hpi] at h1
            have hb := r.blk _ _ hg
            rw [hpi] at hb
            rcases hb with ⟨pid, len, es, fz', k1, k2, k3, k4, k5, k7, k6⟩ | ⟨_, k1, _⟩ | ⟨_, _, k1, _⟩
            · cases k1
              simp only at h1; subst h1
              refine .inl (.same r e (p := .int .i64 (es.length - 0 : Nat)) ?_ (by simp [VR, nti, llen, k6.length]))
              unfold Pi.pbuiltin
              simp only [ht, hu, k3]
            · cases k1
            · cases k1
        · cases e
      · rename_i et j off len hu
        split at e
        · rename_i g c l fz lk hg
          simp only [VR] at h1
          obtain ⟨pid, m, hpi, rfl⟩ := h1
          obtain ⟨es, fz', h3, _, h5, _, h6⟩ := r.rowAt hpi hg
          refine .inl (.same r e (p := .int .i64 (es.length - off : Nat)) ?_ (by simp [VR, nti, nsub, llen, h6.length]))
          unfold Pi.pbuiltin
          simp only [ht, hu, h3]
        · cases e
      · rename_i hu
        simp only [VR] at h1; subst h1
        refine .inl (.same r e (p := .int .i64 0) ?_ (by simp [VR]))
        unfold Pi.pbuiltin
        simp only [ht, hu]
      · cases e
    · cases e
  · -- append
    split at e
    · rename_i s a t t' hts
      replace e := bifY e; obtain ⟨hb, e⟩ := e
      obtain ⟨p, qs, rfl, h1, h2⟩ := ha.cons_inv
      obtain ⟨q, qs, rfl, h3, h4⟩ := h2.cons_inv
      rw [h4.nil_inv]
      have := appA_ok r w h1 h3 e
      refine .inl ?_
      have hp : Pi.pbuiltin P X.h idP .append ats [p, q] = Pi.papp P X.h idP t p q := by
        unfold Pi.pbuiltin
        simp only [hts, hb, cond_true]
      rw [hp]; exact this
    · cases e
  · -- copy
    split at e
    · rename_i dst a t ht
      obtain ⟨p, qs, rfl, h1, h2⟩ := ha.cons_inv
      obtain ⟨q, qs, rfl, h3, h4⟩ := h2.cons_inv
      rw [h4.nil_inv]
      replace e := opt_some e; obtain ⟨⟨g, c⟩, hel, e⟩ := e
      replace e := bifN e; obtain ⟨hek, e⟩ := e
      replace e := elemsA_ok r h3 e; obtain ⟨new, newP, e, hx, hnew⟩ := e
      have hek : elOkA P t c = true := by simpa using hek
      -- the row turns
      have go : ∀ {j pid m off len : Nat} {l : List c.den} {ex : Bool} {es : List PV}, h.get j = some (.row g c l ex false false) → X.π j = some (.blk pid m) → X.h.get pid = some (.row es ex false) → es.length = m → (ex = false → 0 < m) → L2 (EP g (DR X.h X.Q c)) l es → off + len ≤ es.length →
          K (.val (.int .i64 (nti (nmin (llen new) len))) (hput h j (.row g c (lcpy l off new len) ex false false))) = some x → VOk X h n id idP K x (Pi.pbuiltin P X.h idP .copy ats [.own pid off len, q]) := by
        intro j pid m off len l ex es hg hpi k3 k5 k9 k6 hle e
        obtain ⟨hP', eS⟩ := set_ex X.h pid (.row (Pi.lput es off (newP.take len)) ex false)
        have hj : j < 1048575 := by have := r.dom _ _ hpi; have := w.big; omega
        obtain ⟨Y, y1, y2, y3, y4, y5⟩ := r.set (b' := .row g c (lcpy l off new len) ex false false) hj hg trivial rfl hpi k3 (by intros; simp) eS
          (fun Y y1 y2 y3 u => by
            rw [hpi]
            refine .inl ⟨pid, m, _, false, rfl, by rw [y3]; exact (hpi ▸ r.blk _ _ hg).own trivial, by rw [y2, (Hp.get_set eS).1, if_pos rfl], fun _ => rfl, ?_, k9, EDR.mono u (lcpy_L2 k6 hnew off len)⟩
            rw [lput_len (by simp; omega)]; exact k5) idP
        refine ⟨_, _, .int .i64 (Nat.min newP.length len : Nat), hP', Y, e, ?_, ⟨y2, y4, y5 id⟩, by simp [VR, nti, nmin, llen, hnew.length]⟩
        unfold elOkA at hek
        split at hek
        · rename_i et hu
          split at hek
          · rename_i ti z hti hz
            simp only [Bool.and_eq_true, Nat.beq_eq] at hek
            obtain ⟨⟨⟨g1, g2⟩, g3⟩, g4⟩ := hek
            have htz : Pi.tsize P et = some ti.size := by unfold Pi.tsize; rw [hti]; rfl
            unfold Pi.pbuiltin
            simp only [ht, hu, k3, hx, htz]
            rw [all_wd g1 hnew, show Nat.ble (off + len) es.length = true from by simpa using hle, g4, elOk_wd g1 k6]
            simp [eS]
          · cases hek
        · cases hek
      refine .inl ?_
      split at e
      · rename_i j
        split at e
        · rename_i g' c' l hg
          replace e := bifY e; obtain ⟨hgg, e⟩ := e
          have := eq_of_beq hgg; subst this
          replace e := castK_some e; obtain ⟨hc, e⟩ := e
          subst hc
          simp only [VR] at h1
          cases hpi : X.π j with
          | none => rw [hpi] at h1; exact h1.elim
          | some tt =>
            rw [hpi] at h1
            have hb := r.blk _ _ hg
            rw [hpi] at hb
            rcases hb with ⟨pid, len, es, fz', k1, k2, k3, k4, k5, k7, k6⟩ | ⟨_, k1, _⟩ | ⟨_, _, k1, _⟩
            · cases k1
              simp only at h1; subst h1
              have := k4 rfl; subst this
              have hl : llen l = len := by rw [← k5, ← k6.length]; rfl
              rw [hl] at e
              exact go hg hpi k3 k5 k7 k6 (by omega) e
            · cases k1
            · cases k1
        · cases e
      · rename_i j off len
        split at e
        · rename_i g' c' l ex hg
          replace e := bifY e; obtain ⟨hgg, e⟩ := e
          have := eq_of_beq hgg; subst this
          replace e := castK_some e; obtain ⟨hc, e⟩ := e
          subst hc
          replace e := gd_some e; obtain ⟨hle, e⟩ := e
          simp only [VR] at h1
          obtain ⟨pid, m, hpi, rfl⟩ := h1
          obtain ⟨es, fz', k3, k4, k5, k7, k6⟩ := r.rowAt hpi hg
          have := k4 rfl; subst this
          exact go hg hpi k3 k5 k7 k6 (by rw [← k6.length]; simpa [nle, nadd, llen] using hle) e
        · cases e
      · cases e
    · cases e
  · -- clear
    split at e
    · rename_i j t ht
      obtain ⟨p, qs, rfl, h1, h2⟩ := ha.cons_inv
      rw [h2.nil_inv]
      split at e
      · rename_i kt et kk g c l hu hg
        simp only [VR] at h1
        obtain ⟨pid, m, hpi, rfl⟩ := h1
        have hb := r.blk _ _ hg
        rw [hpi] at hb
        obtain ⟨_, _, es, k2, k3, k4, k6⟩ := hb
        cases k2
        obtain ⟨hP', Y, e1, y1⟩ := r.mapSet w.big hg hpi k4 (l' := []) (es' := []) .nil
        refine .inl ⟨_, _, .tup [], hP', Y, e, ?_, y1 id idP, by simp [VR, VRL]⟩
        unfold Pi.pbuiltin
        simp only [ht, hu, k4, e1]
        rfl
      · cases e
    · cases e
  · -- delete
    split at e
    · rename_i m v t ht
      obtain ⟨p, qs, rfl, h1, h2⟩ := ha.cons_inv
      obtain ⟨q, qs, rfl, h3, h4⟩ := h2.cons_inv
      rw [h4.nil_inv]
      replace e := keyA_ok r h1 h3 e
      obtain ⟨j, kk, g, c, l, lk, f, a, kt, et, d, pid, m', es, e, rfl, hg, hpi, rfl, h4, h6, hu, hd, hko, hf, hdp⟩ := e
      replace e := bifN e; obtain ⟨hlk, e⟩ := e
      subst hlk
      obtain ⟨es', p1, p2⟩ := mdel_ok (d := d) hko hf hdp h6
      obtain ⟨hP', Y, e1, y1⟩ := r.mapSet w.big hg hpi h4 p2
      refine .inl ⟨_, _, .tup [], hP', Y, e, ?_, y1 id idP, by simp [VR, VRL]⟩
      unfold Pi.pbuiltin
      simp only [ht, hu, h4, hd, keyDesc_ok hko, Bool.not_true, cond_false, p1, e1]
      rfl
    · cases e
  · -- max
    split at e
    · rename_i k a vs
      obtain ⟨p, qs, rfl, h1, h2⟩ := ha.cons_inv
      simp only [VR] at h1; subst h1
      obtain ⟨rr, e1, e2⟩ := foldA_ok (F := fun m y => if y > m then y else m) (fun a b => rfl) h2 e
      refine .inl (.same r e1 (p := .int k rr) ?_ (by simp [VR]))
      unfold Pi.pbuiltin
      simp only [e2]; rfl
    · cases e
  · -- min
    split at e
    · rename_i k a vs
      obtain ⟨p, qs, rfl, h1, h2⟩ := ha.cons_inv
      simp only [VR] at h1; subst h1
      obtain ⟨rr, e1, e2⟩ := foldA_ok (F := fun m y => if y < m then y else m) (fun a b => rfl) h2 e
      refine .inl (.same r e1 (p := .int k rr) ?_ (by simp [VR]))
      unfold Pi.pbuiltin
      simp only [e2]; rfl
    · cases e
  · -- panic
    split at e
    · rename_i t v
      obtain ⟨p, qs, rfl, h1, h2⟩ := ha.cons_inv
      rw [h2.nil_inv]
      simp only [VR] at h1
      obtain ⟨q, rfl, h1⟩ := h1
      exact .inr (.inl ⟨_, _, e, rfl, by simp only [VR]; exact ⟨q, rfl, h1⟩⟩)
    · cases e
  · exact .inr (.inr ⟨e, rfl⟩)
  · cases e
end
end Go.Proofs.YtopoaknleakdcaaGreat.Sv
namespace Go.Proofs.YtopoaknleakdcaaGreat.Sv
open Go.Proofs.YtopoaknleakdcaaGreat.Pi (PV T Hp Blk DF UM PE lget_eq lset_eq mapPur pur purl)
section
variable {X : Cx} {h : H} {n id idP : Nat} {β : Type} {x : β} {P : Program}
/-! Data out of values. -/
theorem mapPur_append {f : PV → Option (PV × List Nat)} : ∀ {a b qa qb : List PV} {la lb : List Nat}, mapPur f a = some (qa, la) → mapPur f b = some (qb, lb) → mapPur f (a ++ b) = some (qa ++ qb, la ++ lb)
  | [], b, qa, qb, la, lb, h1, h2 => by cases h1; exact h2
  | p :: a, b, qa, qb, la, lb, h1, h2 => by
    simp only [mapPur] at h1
    split at h1
    · rename_i q l qs m e1 e2
      cases h1
      have := mapPur_append e2 h2
      show (match f p, mapPur f (a ++ b) with
        | some (q, a), some (qs, b) => some (q :: qs, a ++ b)
        | _, _ => none) = _
      rw [e1, this]; simp
    · cases h1
theorem mapPur_one {f : PV → Option (PV × List Nat)} {p q : PV} {l : List Nat} (h : f p = some (q, l)) : mapPur f [p] = some ([q], l) := by simp [mapPur, h]
/-- blocks that were met: rows of Q -/
def Met (h : Hp) (Q : Nat → Prop) (l : List Nat) : Prop := ∀ i ∈ l, Q i ∧ ∃ es ex fz, h.get i = some (.row es ex fz)
theorem Met.nil {h : Hp} {Q : Nat → Prop} : Met h Q [] := fun _ hi => by cases hi
theorem Met.append {h : Hp} {Q : Nat → Prop} {a b : List Nat} (ha : Met h Q a) (hb : Met h Q b) : Met h Q (a ++ b) := fun i hi => (List.mem_append.1 hi).elim (ha i) (hb i)
theorem Met.mono {h : Hp} {Q Q' : Nat → Prop} {a : List Nat} (f : ∀ i, Q i → Q' i) (ha : Met h Q a) : Met h Q' a := fun i hi => ⟨f _ (ha i hi).1, (ha i hi).2⟩
theorem purEP {hh : Hp} {Q : Nat → Prop} {g : Bool} {c : Ty} {d : Nat} (ih : ∀ {y : c.den} {ps : List PV}, DR hh Q c y ps → ∀ d', 2 * c.depth + 1 ≤ d' → ∃ qs ids, mapPur (pur hh d') ps = some (qs, ids) ∧ DP c y qs ∧ Met hh Q ids) (hd : 2 * c.depth + 2 ≤ d)
    {y : c.den} {e : PV} (h : EP g (DR hh Q c) y e) : ∃ q ids, pur hh d e = some (q, ids) ∧ EP g (DP c) y q ∧ Met hh Q ids := by
  cases g with
  | true =>
    obtain ⟨cs, rfl, h⟩ := h
    obtain ⟨d, rfl⟩ : ∃ d', d = d' + 1 := ⟨d - 1, by omega⟩
    obtain ⟨qs, ids, h1, h2, h3⟩ := ih h d (by omega)
    exact ⟨.agg qs, ids, by simp only [pur, h1]; rfl, ⟨qs, rfl, h2⟩, h3⟩
  | false =>
    obtain ⟨qs, ids, h1, h2, h3⟩ := ih (show DR hh Q c y [e] from h) d (by omega)
    simp only [mapPur] at h1
    split at h1
    · rename_i q l qs' m e1 e2
      cases e2; cases h1
      exact ⟨q, l, e1, h2, by simpa using h3⟩
    · cases h1
theorem purL2 {α : Type} {hh : Hp} {Q : Nat → Prop} {R S : α → PV → Prop} {d : Nat} (f : ∀ y e, R y e → ∃ q ids, pur hh d e = some (q, ids) ∧ S y q ∧ Met hh Q ids) :
    ∀ {l : List α} {es : List PV}, L2 R l es → ∃ qs ids, mapPur (pur hh d) es = some (qs, ids) ∧ L2 S l qs ∧ Met hh Q ids
  | _, _, .nil => ⟨[], [], rfl, .nil, .nil⟩
  | _, _, .cons h t => by
    obtain ⟨q, a, h1, h2, h3⟩ := f _ _ h
    obtain ⟨qs, b, k1, k2, k3⟩ := purL2 f t
    exact ⟨q :: qs, a ++ b, by simp [mapPur, h1, k1], .cons h2 k2, h3.append k3⟩
theorem purDR : ∀ {hh : Hp} {Q : Nat → Prop} {c : Ty} {y : c.den} {ps : List PV}, DR hh Q c y ps → ∀ d, 2 * c.depth + 1 ≤ d → ∃ qs ids, mapPur (pur hh d) ps = some (qs, ids) ∧ DP c y qs ∧ Met hh Q ids
  | hh, Q, .int k, y, ps, e, d, hd => by
    obtain ⟨d, rfl⟩ : ∃ d', d = d' + 1 := ⟨d - 1, by omega⟩
    subst e; exact ⟨[_], [], mapPur_one rfl, rfl, .nil⟩
  | hh, Q, .bool, y, ps, e, d, hd => by
    obtain ⟨d, rfl⟩ : ∃ d', d = d' + 1 := ⟨d - 1, by omega⟩
    subst e; exact ⟨[_], [], mapPur_one rfl, rfl, .nil⟩
  | hh, Q, .str, y, ps, e, d, hd => by
    obtain ⟨d, rfl⟩ : ∃ d', d = d' + 1 := ⟨d - 1, by omega⟩
    subst e; exact ⟨[_], [], mapPur_one rfl, rfl, .nil⟩
  | hh, Q, .unit, y, ps, e, d, hd => by subst e; exact ⟨[], [], rfl, rfl, .nil⟩
  | hh, Q, .pair a b, y, ps, ⟨p, q, e, h1, h2⟩, d, hd => by
    subst e
    have hm : (Ty.pair a b).depth = Nat.max a.depth b.depth := rfl
    rw [hm] at hd
    have l1 := Nat.le_max_left a.depth b.depth
    have l2 := Nat.le_max_right a.depth b.depth
    obtain ⟨qa, la, k1, k2, k3⟩ := purDR h1 d (by have : a.depth ≤ Nat.max a.depth b.depth := l1; omega)
    obtain ⟨qb, lb, m1, m2, m3⟩ := purDR h2 d (by have : b.depth ≤ Nat.max a.depth b.depth := l2; omega)
    exact ⟨qa ++ qb, la ++ lb, mapPur_append k1 m1, ⟨qa, qb, rfl, k2, m2⟩, k3.append m3⟩
  | hh, Q, .sl g c, y, ps, ⟨p, e, h⟩, d, hd => by
    subst e
    have hm : (Ty.sl g c).depth = c.depth + 1 := rfl
    rw [hm] at hd
    obtain ⟨d, rfl⟩ : ∃ d', d = d' + 1 := ⟨d - 1, by omega⟩
    rcases h with ⟨rfl, rfl⟩ | ⟨f, es, rfl, h2⟩ | ⟨pid, off, len, es, ex, fz, rfl, h2, h3, h4, h8, h5⟩
    · exact ⟨[.nils], [], mapPur_one rfl, ⟨_, rfl, .inl ⟨rfl, rfl⟩⟩, .nil⟩
    · exact ⟨[.lst f es], [], mapPur_one rfl, ⟨_, rfl, .inr ⟨f, es, rfl, h2⟩⟩, .nil⟩
    · obtain ⟨qs, ids, k1, k2, k3⟩ := purL2 (fun y e hE => purEP (d := d) (fun hh' d' hd' => purDR hh' d' hd') (by omega) hE) h5
      refine ⟨[.lst false qs], pid :: ids, mapPur_one ?_, ⟨_, rfl, .inr ⟨false, qs, rfl, k2⟩⟩, fun i hi => ?_⟩
      · simp only [pur, h3]
        rw [show Nat.ble (off + len) es.length = true from by simpa using h4]
        simp only [cond_true, k1]; rfl
      · rcases List.mem_cons.1 hi with rfl | hi
        · exact ⟨h2, es, ex, fz, h3⟩
        · exact k3 i hi
theorem purDX : ∀ {hh : Hp} {Q Q' : Nat → Prop} {c : Ty} {y : c.den} {ps : List PV}, DX hh Q Q' c y ps → (∀ i, Q' i → Q i) → ∀ d, 2 * c.depth + 1 ≤ d → ∃ qs ids, mapPur (pur hh d) ps = some (qs, ids) ∧ DP c y qs ∧ Met hh Q ids
  | hh, Q, Q', .int k, y, ps, e, f, d, hd => purDR (c := .int k) e d hd
  | hh, Q, Q', .bool, y, ps, e, f, d, hd => purDR (c := .bool) e d hd
  | hh, Q, Q', .str, y, ps, e, f, d, hd => purDR (c := .str) e d hd
  | hh, Q, Q', .unit, y, ps, e, f, d, hd => purDR (c := .unit) e d hd
  | hh, Q, Q', .pair a b, y, ps, ⟨p, q, e, h1, h2⟩, f, d, hd => by
    subst e
    have hm : (Ty.pair a b).depth = Nat.max a.depth b.depth := rfl
    rw [hm] at hd
    have l1 := Nat.le_max_left a.depth b.depth
    have l2 := Nat.le_max_right a.depth b.depth
    obtain ⟨qa, la, k1, k2, k3⟩ := purDX h1 f d (by have : a.depth ≤ Nat.max a.depth b.depth := l1; omega)
    obtain ⟨qb, lb, m1, m2, m3⟩ := purDX h2 f d (by have : b.depth ≤ Nat.max a.depth b.depth := l2; omega)
    exact ⟨qa ++ qb, la ++ lb, mapPur_append k1 m1, ⟨qa, qb, rfl, k2, m2⟩, k3.append m3⟩
  | hh, Q, Q', .sl g c, y, ps, ⟨p, e, h⟩, f, d, hd => by
    subst e
    have hm : (Ty.sl g c).depth = c.depth + 1 := rfl
    rw [hm] at hd
    obtain ⟨d, rfl⟩ : ∃ d', d = d' + 1 := ⟨d - 1, by omega⟩
    rcases h with ⟨rfl, rfl⟩ | ⟨f, es, rfl, h2⟩ | ⟨pid, off, len, es, ex, fz, rfl, h2, h3, h4, h8, h5⟩
    · exact ⟨[.nils], [], mapPur_one rfl, ⟨_, rfl, .inl ⟨rfl, rfl⟩⟩, .nil⟩
    · exact ⟨[.lst f es], [], mapPur_one rfl, ⟨_, rfl, .inr ⟨f, es, rfl, h2⟩⟩, .nil⟩
    · obtain ⟨qs, ids, k1, k2, k3⟩ := purL2 (fun y e hE => purEP (d := d) (fun hh' d' hd' => purDR hh' d' hd') (by omega) hE) h5
      refine ⟨[.lst false qs], pid :: ids, mapPur_one ?_, ⟨_, rfl, .inr ⟨false, qs, rfl, k2⟩⟩, fun i hi => ?_⟩
      · simp only [pur, h3]
        rw [show Nat.ble (off + len) es.length = true from by simpa using h4]
        simp only [cond_true, k1]; rfl
      · rcases List.mem_cons.1 hi with rfl | hi
        · exact ⟨h2, es, ex, fz, h3⟩
        · exact (k3.mono f) i hi
/-- one argument or result -/
theorem purX {hh : Hp} {Q Q' : Nat → Prop} {g : Bool} {c : Ty} {y : c.den} {e : PV} (f : ∀ i, Q' i → Q i) (h : EP g (DX hh Q Q' c) y e) {d : Nat} (hd : 2 * c.depth + 2 ≤ d) :
    ∃ q ids, pur hh d e = some (q, ids) ∧ EP g (DP c) y q ∧ Met hh Q ids := by
  cases g with
  | true =>
    obtain ⟨cs, rfl, h⟩ := h
    obtain ⟨d, rfl⟩ : ∃ d', d = d' + 1 := ⟨d - 1, by omega⟩
    obtain ⟨qs, ids, h1, h2, h3⟩ := purDX h f d (by omega)
    exact ⟨.agg qs, ids, by simp only [pur, h1]; rfl, ⟨qs, rfl, h2⟩, h3⟩
  | false =>
    obtain ⟨qs, ids, h1, h2, h3⟩ := purDX (show DX hh Q Q' c y [e] from h) f d (by omega)
    simp only [mapPur] at h1
    split at h1
    · rename_i q l qs' m e1 e2
      cases e2; cases h1
      exact ⟨q, l, e1, h2, by simpa using h3⟩
    · cases h1

/-! Marks. -/
theorem freeze_ok : ∀ {l : List Nat} {hh : Hp} {Q : Nat → Prop}, Met hh Q l → ∃ h', Pi.freeze hh l = some h' ∧ h'.nx = hh.nx ∧ ∀ q, h'.get q = if q ∈ l then (match hh.get q with
    | some (.row es ex _) => some (.row es ex true)
    | b => b) else hh.get q
  | [], hh, Q, m => ⟨hh, rfl, rfl, fun q => by simp⟩
  | i :: l, hh, Q, m => by
    obtain ⟨_, es, ex, fz, hi⟩ := m i (by simp)
    obtain ⟨h1, e1⟩ := set_ex hh i (.row es ex true)
    have g1 := (Hp.get_set e1).1
    have m' : Met h1 Q l := fun j hj => by
      obtain ⟨hq, es', ex', fz', hj'⟩ := m j (by simp [hj])
      refine ⟨hq, ?_⟩
      rw [g1]
      by_cases hji : j = i
      · subst hji; rw [if_pos rfl]; exact ⟨es, ex, true, rfl⟩
      · rw [if_neg hji]; exact ⟨es', ex', fz', hj'⟩
    obtain ⟨h', e2, e3, e4⟩ := freeze_ok m'
    refine ⟨h', by simp only [Pi.freeze, hi, e1]; exact e2, by rw [e3]; exact (Hp.get_set e1).2, fun q => ?_⟩
    rw [e4, g1]
    by_cases hqi : q = i
    · subst hqi
      simp only [if_true, List.mem_cons, true_or, hi]
      split <;> rfl
    · simp only [hqi, if_false, List.mem_cons, false_or]
theorem freezeA_get : ∀ {l : List Nat} {h h' : H}, (∀ i ∈ l, i < 1048575) → freezeA h l = some h' → (∀ i ∈ l, ∃ g c y ex fz lk, h.get i = some (.row g c y ex fz lk)) ∧ (∀ i b', h'.get i = some b' → h.get i = some b' ∨ ∃ g c y ex fz lk, i ∈ l ∧ h.get i = some (.row g c y ex fz lk) ∧ b' = .row g c y ex true false) ∧
    (∀ i ∈ l, ∀ g c y ex fz lk, h'.get i = some (.row g c y ex fz lk) → fz = true) ∧ ∀ i b, h.get i = some b → b.locked = true → h'.get i = some b
  | [], h, h', hb, e => by cases e; exact ⟨fun i hi => by simp at hi, fun i b' hb => .inl hb, fun i hi => by simp at hi, fun i b hi _ => hi⟩
  | j :: l, h, h', hb, e => by
    unfold freezeA at e
    split at e
    · rename_i g c y ex fz lk hg
      replace e := bifT' e
      rcases e with ⟨hf, e⟩ | ⟨hf, e⟩
      · subst hf
        obtain ⟨k1, k2, k3, k4⟩ := freezeA_get (fun i hi => hb i (by simp [hi])) e
        refine ⟨fun i hi => ?_, fun i b' hb' => ?_, fun i hi g' c' y' ex' fz' lk' hi' => ?_, k4⟩
        · rcases List.mem_cons.1 hi with rfl | hi
          · exact ⟨_, _, _, _, _, _, hg⟩
          · exact k1 i hi
        · rcases k2 i b' hb' with h1 | ⟨g1, c1, y1, ex1, fz1, lk1, h1, h2, h3⟩
          · exact .inl h1
          · exact .inr ⟨g1, c1, y1, ex1, fz1, lk1, by simp [h1], h2, h3⟩
        · rcases List.mem_cons.1 hi with rfl | hi
          · rcases k2 _ _ hi' with h1 | ⟨g1, c1, y1, ex1, fz1, lk1, h1, h2, h3⟩
            · rw [hg] at h1; cases h1; rfl
            · cases h3; rfl
          · exact k3 i hi _ _ _ _ _ _ hi'
      · replace e := bifN e; obtain ⟨hlk, e⟩ := e
        subst hlk
        have hj := hb j (by simp)
        obtain ⟨k1, k2, k3, k4⟩ := freezeA_get (fun i hi => hb i (by simp [hi])) e
        refine ⟨fun i hi => ?_, fun i b' hb' => ?_, fun i hi g' c' y' ex' fz' lk' hi' => ?_, fun i b hi hl => ?_⟩
        · rcases List.mem_cons.1 hi with rfl | hi
          · exact ⟨_, _, _, _, _, _, hg⟩
          · by_cases hij : i = j
            · subst hij; exact ⟨_, _, _, _, _, _, hg⟩
            · have := k1 i hi; rw [hput_get hj, if_neg hij] at this; exact this
        · rcases k2 i b' hb' with h1 | ⟨g1, c1, y1, ex1, fz1, lk1, h1, h2, h3⟩
          · rw [hput_get hj] at h1
            by_cases hij : i = j
            · subst hij; rw [if_pos rfl] at h1; cases h1
              exact .inr ⟨g, c, y, ex, fz, false, by simp, hg, rfl⟩
            · rw [if_neg hij] at h1; exact .inl h1
          · rw [hput_get hj] at h2
            by_cases hij : i = j
            · subst hij; rw [if_pos rfl] at h2; cases h2
              exact .inr ⟨g, c, y, ex, fz, false, by simp, hg, h3⟩
            · rw [if_neg hij] at h2; exact .inr ⟨g1, c1, y1, ex1, fz1, lk1, by simp [h1], h2, h3⟩
        · rcases List.mem_cons.1 hi with rfl | hi
          · rcases k2 _ _ hi' with h1 | ⟨g1, c1, y1, ex1, fz1, lk1, h1, h2, h3⟩
            · rw [hput_get hj, if_pos rfl] at h1; cases h1; rfl
            · cases h3; rfl
          · exact k3 i hi _ _ _ _ _ _ hi'
        · refine k4 i b ?_ hl
          rw [hput_get hj, if_neg]
          · exact hi
          · intro hh; subst hh; rw [hg] at hi; cases hi; cases hl
    · cases e
/-- marks on both sides -/
theorem RH.frozen (r : RH X h n) (hn : n ≤ 1048575) {l lP : List Nat} {h' : H} {hP' : Hp} (hl : ∀ i ∈ l, ∃ a, X.π i = some a) (e : freezeA h l = some h') (hnx : hP'.nx = X.h.nx) (eg : ∀ q, hP'.get q = if q ∈ lP then (match X.h.get q with
    | some (.row es ex _) => some (.row es ex true)
    | b => b) else X.h.get q) (hm : ∀ q ∈ lP, X.O q → ∃ i ∈ l, ∃ m, X.π i = some (.blk q m)) (id idP : Nat) :
    ∃ Y : Cx, Y.π = X.π ∧ Y.O = X.O ∧ HOk X h n id idP h' hP' Y := by
  have hb : ∀ i ∈ l, i < 1048575 := fun i hi => by obtain ⟨a, ha⟩ := hl i hi; have := r.dom _ _ ha; omega
  obtain ⟨k1, k2, k3, k4⟩ := freezeA_get hb e
  let Y : Cx := { π := X.π, h := hP', O := X.O }
  have rowget : ∀ q es ex fz, X.h.get q = some (.row es ex fz) → ∃ fz', hP'.get q = some (.row es ex fz') ∧ (q ∉ lP → fz' = fz) := fun q es ex fz hq => by
    rw [eg]
    by_cases hi : q ∈ lP
    · rw [if_pos hi, hq]; exact ⟨true, rfl, fun h => absurd hi h⟩
    · rw [if_neg hi]; exact ⟨fz, hq, fun _ => rfl⟩
  have other : ∀ q, (∀ es ex fz, X.h.get q ≠ some (.row es ex fz)) → hP'.get q = X.h.get q := fun q hq => by
    rw [eg]
    split
    · split
      · rename_i es ex fz he; exact absurd he (hq _ _ _)
      · rfl
    · rfl
  have u : Up X Y := ⟨fun _ _ h => h, fun q es ex fz hq hg => ⟨by obtain ⟨fz', h1, _⟩ := rowget _ _ _ _ hg; exact ⟨fz', h1⟩, hq⟩⟩
  have live : ∀ {i : Nat} {b' : BA}, h'.get i = some b' → b'.live → ∃ b, h.get i = some b ∧ b.live := fun hi hv => by
    rcases k2 _ _ hi with h1 | ⟨g1, c1, y1, ex1, fz1, lk1, h1, h2, h3⟩
    · exact ⟨_, h1, hv⟩
    · exact ⟨_, h2, trivial⟩
  refine ⟨Y, rfl, rfl, rfl, ⟨fun i b' hi => ?_, fun i i' b b' q m1 m2 hi hi' l1 l2 a1 a2 => ?_, r.dom, fun q hq => ?_, fun q hq => by
    show hP'.get q ≠ none
    rw [eg]
    have := r.ob _ hq
    split
    · split <;> simp_all
    · exact this⟩, ⟨u, hnx, fun _ _ h => h, fun q hq hne => ?_, k4, fun q st pe nt t ps asg body d hq => ?_⟩⟩
  · -- each block
    rcases k2 _ _ hi with h1 | ⟨g1, c1, y1, ex1, fz1, lk1, h1, h2, h3⟩
    · have hB := r.blk _ _ h1
      cases b' with
      | row g c y ex fz lk =>
        rcases hB with ⟨pid, len, es, fz', p1, p2, p3, p4, p5, p7, p6⟩ | hB | hB
        · obtain ⟨fz2, q1, q2⟩ := rowget _ _ _ _ p3
          refine .inl ⟨pid, len, es, fz2, p1, p2, q1, fun hf => ?_, p5, p7, EDR.mono u p6⟩
          by_cases hin : pid ∈ lP
          · obtain ⟨i', hi', m, hpi'⟩ := hm _ hin p2
            obtain ⟨g2, c2, y2, ex2, fz3, lk2, h4⟩ := k1 _ hi'
            have := r.inj _ _ _ _ _ _ _ h1 h4 trivial trivial p1 hpi'
            subst this
            have := k3 _ hi' _ _ _ _ _ _ hi
            rw [this] at hf; cases hf
          · rw [q2 hin]; exact p4 hf
        · exact .inr (.inl hB)
        · exact .inr (.inr hB)
      | box cs fz lk =>
        obtain ⟨pid, m, ps, fz', p1, p2, p3, p4, p5⟩ := hB
        exact ⟨pid, m, ps, fz', p1, p2, by show hP'.get pid = _; rw [other _ (by rw [p3]; intros; simp), p3], p4, p5.mono u⟩
      | mp k g c y lk =>
        obtain ⟨pid, m, es, p1, p2, p3, p4⟩ := hB
        exact ⟨pid, m, es, p1, p2, by show hP'.get pid = _; rw [other _ (by rw [p3]; intros; simp), p3], p4.mono fun _ _ m => ⟨m.1, m.2.mono fun _ _ k => DR.mono u.rows k⟩⟩
      | lp st pend nt t ps asg body d =>
        obtain ⟨pid, m, tP, dP, m2, p1, p2, p3, p4, p5, p6⟩ := hB
        exact ⟨pid, m, tP, dP, m2, p1, p2, by show hP'.get pid = _; rw [other _ (by rw [p3]; intros; simp), p3], p4.mono u, p5, p6⟩
      | df ds =>
        obtain ⟨pid, m, dsP, p1, p2, p3, p4⟩ := hB
        refine ⟨pid, m, dsP, p1, p2, by show hP'.get pid = _; rw [other _ (by rw [p3]; intros; simp), p3], ?_⟩
        split at p4
        · trivial
        · exact p4.mono fun _ _ m => m.mono u
        · exact p4.elim
      | dead => trivial
    · subst h3
      rcases r.blk _ _ h2 with ⟨pid, len, es, fz', p1, p2, p3, p4, p5, p7, p6⟩ | hB | ⟨es, p1, p2, p3, p4⟩
      · obtain ⟨fz2, q1, q2⟩ := rowget _ _ _ _ p3
        exact .inl ⟨pid, len, es, fz2, p1, p2, q1, fun hf => (by cases hf), p5, p7, EDR.mono u p6⟩
      · exact .inr (.inl hB)
      · exact .inr (.inr ⟨es, p1, p2, rfl, p4⟩)
  · obtain ⟨b1, h1, v1⟩ := live hi l1
    obtain ⟨b2, h2, v2⟩ := live hi' l2
    exact r.inj _ _ _ _ _ _ _ h1 h2 v1 v2 a1 a2
  · show hP'.get q = none
    rw [other]
    · exact r.fresh _ (by rw [← hnx]; exact hq)
    · rw [r.fresh _ (by rw [← hnx]; exact hq)]; intros; simp
  · show hP'.get q = none
    rw [other _ (by rw [hne]; intros; simp), hne]
  · show hP'.get q = _
    rw [other _ (by rw [hq]; intros; simp), hq]
end
end Go.Proofs.YtopoaknleakdcaaGreat.Sv
namespace Go.Proofs.YtopoaknleakdcaaGreat.Sv
open Go.Proofs.YtopoaknleakdcaaGreat.Pi (PV T Hp Blk DF UM PE lget_eq lset_eq mapPur pur purl)
section
variable {X : Cx} {h : H} {n id idP : Nat} {β : Type} {x : β} {P : Program}
/-- blocks that were met: not own, or named in l -/
def MetA (X : Cx) (l lP : List Nat) : Prop := ∀ i ∈ lP, (X.Q i ∨ ∃ id ∈ l, ∃ m, X.π id = some (.blk i m)) ∧ ∃ es ex fz, X.h.get i = some (.row es ex fz)
theorem MetA.append {l m lP mP : List Nat} (a : MetA X l lP) (b : MetA X m mP) : MetA X (l ++ m) (lP ++ mP) := fun i hi => by
  rcases List.mem_append.1 hi with hi | hi
  · obtain ⟨h1, h2⟩ := a i hi
    exact ⟨h1.imp id fun ⟨j, hj, k⟩ => ⟨j, List.mem_append_left _ hj, k⟩, h2⟩
  · obtain ⟨h1, h2⟩ := b i hi
    exact ⟨h1.imp id fun ⟨j, hj, k⟩ => ⟨j, List.mem_append_right _ hj, k⟩, h2⟩
theorem MetA.nil {l : List Nat} : MetA X l [] := fun _ hi => by cases hi
def Kn (X : Cx) (l : List Nat) : Prop := ∀ i ∈ l, ∃ a, X.π i = some a
theorem Kn.append {l m : List Nat} (a : Kn X l) (b : Kn X m) : Kn X (l ++ m) := fun i hi => (List.mem_append.1 hi).elim (a i) (b i)
theorem Kn.nil : Kn X [] := fun _ hi => by cases hi
theorem Met.toA {l : List Nat} (m : Met X.h X.Q l) : MetA X [] l := fun i hi => ⟨.inl (m i hi).1, (m i hi).2⟩
/-- an own row's data -/
theorem pur_own {pid off len : Nat} {es : List PV} {ex fz : Bool} {g : Bool} {c : Ty} {l : List c.den} {d : Nat} (h3 : X.h.get pid = some (.row es ex fz)) (h4 : off + len ≤ es.length) (h5 : L2 (EP g (DR X.h X.Q c)) l ((es.drop off).take len)) (hd : 2 * c.depth + 3 ≤ d) :
    ∃ qs ids, pur X.h d (.own pid off len) = some (.lst false qs, pid :: ids) ∧ L2 (EP g (DP c)) l qs ∧ Met X.h X.Q ids := by
  obtain ⟨d, rfl⟩ : ∃ d', d = d' + 1 := ⟨d - 1, by omega⟩
  obtain ⟨qs, ids, k1, k2, k3⟩ := purL2 (fun y e hE => purEP (d := d) (fun hh' d' hd' => purDR hh' d' hd') (by omega) hE) h5
  refine ⟨qs, ids, ?_, k2, k3⟩
  simp only [pur, h3]
  rw [show Nat.ble (off + len) es.length = true from by simpa using h4]
  simp only [cond_true, k1]; rfl
theorem pur_agg (hh : Hp) (d : Nat) (cs : List PV) : pur hh (d + 1) (.agg cs) = (mapPur (pur hh d) cs).map fun (x, l) => (.agg x, l) := rfl
theorem pur_tup (hh : Hp) (d : Nat) (cs : List PV) : pur hh (d + 1) (.tup cs) = (mapPur (pur hh d) cs).map fun (x, l) => (.tup x, l) := rfl
theorem pur_ifc (hh : Hp) (d : Nat) (t : TypeId) (v : PV) : pur hh (d + 1) (.ifc t v) = (pur hh d v).map fun (x, l) => (.ifc t x, l) := rfl
theorem pur_fn (hh : Hp) (d : Nat) (f : Fn) (a b : List PV) : pur hh (d + 1) (.fn f a b) = (match mapPur (pur hh d) a, mapPur (pur hh d) b with
      | some (a, l), some (b, m) => some (.fn f a b, l ++ m)
      | _, _ => none) := rfl
mutual
theorem purA_ok (r : RH X h n) : ∀ (d : Nat) {v : V} {p : PV} {K : V → List Nat → Option β}, VR X v p → purA h d v K = some x →
    ∃ v' l q lP, K v' l = some x ∧ pur X.h (d + 6) p = some (q, lP) ∧ VR Cx.pure v' q ∧ MetA X l lP ∧ Kn X l
  | 0, _, _, _, _, e => by simp [purA] at e
  | d + 1, v, p, K, hv, e => by
    have hdd : d + 1 + 6 = (d + 6) + 1 := by omega
    unfold purA at e
    split at e
    · obtain ⟨ps, rfl, hv'⟩ := hv.agg_inv
      obtain ⟨vs, l, qs, lP, e1, h1, h2, h3, h4⟩ := purAs_ok r d hv' e
      refine ⟨_, l, .agg qs, lP, e1, ?_, by simp only [VR]; exact ⟨qs, rfl, h2⟩, h3, h4⟩
      rw [hdd, pur_agg, h1]; rfl
    · simp only [VR] at hv
      obtain ⟨ps, rfl, hv'⟩ := hv
      obtain ⟨vs, l, qs, lP, e1, h1, h2, h3, h4⟩ := purAs_ok r d hv' e
      refine ⟨_, l, .tup qs, lP, e1, ?_, by simp only [VR]; exact ⟨qs, rfl, h2⟩, h3, h4⟩
      rw [hdd, pur_tup, h1]; rfl
    · simp only [VR] at hv
      obtain ⟨q, rfl, hv'⟩ := hv
      obtain ⟨v', l, q', lP, e1, h1, h2, h3, h4⟩ := purA_ok r d hv' e
      refine ⟨_, l, .ifc _ q', lP, e1, ?_, by simp only [VR]; exact ⟨q', rfl, h2⟩, h3, h4⟩
      rw [hdd, pur_ifc, h1]; rfl
    · simp only [VR] at hv
      obtain ⟨a', b', rfl, ha, hb⟩ := hv
      obtain ⟨vs, l, qs, lP, e1, h1, h2, h3, h4⟩ := purAs_ok r d ha e
      obtain ⟨ws, m, rs, mP, e2, k1, k2, k3, k4⟩ := purAs_ok r d hb e1
      refine ⟨_, l ++ m, .fn _ qs rs, lP ++ mP, e2, ?_, by simp only [VR]; exact ⟨qs, rs, rfl, h2, k2⟩, h3.append k3, h4.append k4⟩
      rw [hdd, pur_fn, h1, k1]
    · rename_i f g c l
      replace e := bifY e; obtain ⟨hd, e⟩ := e
      have hd' : 2 * c.depth + 3 ≤ d + 7 := Nat.le_of_ble_eq_true hd
      simp only [VR] at hv
      rcases hv with ⟨rfl, rfl⟩ | ⟨f', es, rfl, hf, h2⟩ | ⟨pid, off, len, es, ex, fz, rfl, hf, h2, h3, h4, h8, h5⟩
      · exact ⟨_, [], .nils, [], e, by rw [hdd]; rfl, by simp [VR], .nil, .nil⟩
      · exact ⟨_, [], .lst f' es, [], e, by rw [hdd]; rfl, by simp only [VR]; exact .inr (.inl ⟨f', es, rfl, by simp, h2⟩), .nil, .nil⟩
      · obtain ⟨qs, ids, k1, k2, k3⟩ := pur_own (d := d + 7) h3 h4 h5 hd'
        refine ⟨_, [], _, _, e, k1, by simp only [VR]; exact .inr (.inl ⟨false, qs, rfl, by simp, k2⟩), fun i hi => ?_, .nil⟩
        rcases List.mem_cons.1 hi with rfl | hi
        · exact ⟨.inl h2, es, ex, fz, h3⟩
        · exact k3.toA i hi
    · rename_i id
      split at e
      · rename_i g c l ex fz lk hg
        replace e := bifY e; obtain ⟨hd, e⟩ := e
        have hd' : 2 * c.depth + 3 ≤ d + 7 := Nat.le_of_ble_eq_true hd
        simp only [VR] at hv
        have hB := r.blk _ _ hg
        cases hpi : X.π id with
        | none => rw [hpi] at hv; exact hv.elim
        | some a =>
          rw [hpi] at hv hB
          have hkn : Kn X [id] := fun i hi => by rw [List.mem_singleton.1 hi]; exact ⟨a, hpi⟩
          rcases hB with ⟨pid, len, es, fz', p1, p2, p3, p4, p5, p7, p6⟩ | ⟨p1, _, p2⟩ | ⟨es, p1, _, _, p2⟩
          · cases p1
            simp only at hv; subst hv
            obtain ⟨qs, ids, k1, k2, k3⟩ := pur_own (d := d + 7) (off := 0) (len := len) p3 (by omega) (by rw [List.drop_zero, List.take_of_length_le (by omega)]; exact p6) hd'
            refine ⟨_, [id], _, _, e, k1, by simp only [VR]; exact .inr (.inl ⟨false, qs, rfl, by simp, k2⟩), fun i hi => ?_, hkn⟩
            rcases List.mem_cons.1 hi with rfl | hi
            · exact ⟨.inr ⟨id, by simp, len, hpi⟩, es, ex, fz', p3⟩
            · obtain ⟨q1, q2⟩ := k3 i hi; exact ⟨.inl q1, q2⟩
          · cases p1; subst p2
            simp only at hv; subst hv
            exact ⟨_, [id], .nils, [], e, by rw [hdd]; rfl, by simp [VR], .nil, hkn⟩
          · cases p1
            simp only at hv; subst hv
            exact ⟨_, [id], .lst true es, [], e, by rw [hdd]; rfl, by simp only [VR]; exact .inr (.inl ⟨true, es, rfl, by simp, p2⟩), .nil, hkn⟩
      · cases e
    · rename_i id off len
      split at e
      · rename_i g c l ex fz lk hg
        replace e := bifY e; obtain ⟨hd, e⟩ := e
        have hd' : 2 * c.depth + 3 ≤ d + 7 := Nat.le_of_ble_eq_true hd
        replace e := gd_some e; obtain ⟨hle, e⟩ := e
        simp only [VR] at hv
        obtain ⟨pid, m, hpi, rfl⟩ := hv
        obtain ⟨es, fz', p3, _, p5, _, p6⟩ := r.rowAt hpi hg
        obtain ⟨qs, ids, k1, k2, k3⟩ := pur_own (d := d + 7) (off := off) (len := len) p3 (by rw [← p6.length]; simpa [nle, nadd, llen] using hle) (lsub_L2 p6 off len) hd'
        refine ⟨_, [id], _, _, e, k1, by simp only [VR]; exact .inr (.inl ⟨false, qs, rfl, by simp, k2⟩), fun i hi => ?_, fun i hi => by rw [List.mem_singleton.1 hi]; exact ⟨_, hpi⟩⟩
        rcases List.mem_cons.1 hi with rfl | hi
        · exact ⟨.inr ⟨id, by simp, m, hpi⟩, es, ex, fz', p3⟩
        · obtain ⟨q1, q2⟩ := k3 i hi; exact ⟨.inl q1, q2⟩
      · cases e
    · cases e
    · cases e
    · cases e
    · cases e
    · cases e
    · rename_i n1 n2 n3 n4 n5 n6 n7 n8 n9 n10 n11 n12
      cases v with
      | agg | tup | ifc | fn | lf | ow | own | ptr | view | ept | yl | mp =>
        exfalso
        first | exact n1 _ rfl | exact n2 _ rfl | exact n3 _ _ rfl | exact n4 _ _ _ rfl | exact n5 _ _ _ _ rfl | exact n6 _ rfl | exact n7 _ _ _ rfl | exact n8 _ _ rfl | exact n9 _ rfl | exact n10 _ _ _ rfl | exact n11 _ rfl | exact n12 _ rfl
      | exl f es =>
        simp only [VR] at hv
        obtain ⟨f', ps, rfl, h1, h2⟩ := hv
        exact ⟨_, [], .lst f' ps, [], e, by rw [hdd]; rfl, by simp only [VR]; exact ⟨f', ps, rfl, h1, h2⟩, .nil, .nil⟩
      | _ =>
        simp only [VR] at hv; subst hv
        exact ⟨_, [], _, [], e, by rw [hdd]; rfl, by simp only [VR], .nil, .nil⟩
theorem purAs_ok (r : RH X h n) : ∀ (d : Nat) {vs : List V} {ps : List PV} {K : List V → List Nat → Option β}, VRL X vs ps → purA.purAs (purA h d) vs K = some x →
    ∃ vs' l qs lP, K vs' l = some x ∧ mapPur (pur X.h (d + 6)) ps = some (qs, lP) ∧ VRL Cx.pure vs' qs ∧ MetA X l lP ∧ Kn X l
  | d, [], _, K, hv, e => by rw [hv.nil_inv]; exact ⟨[], [], [], [], e, rfl, .nil, .nil, .nil⟩
  | d, v :: vs, _, K, hv, e => by
    obtain ⟨p, qs, rfl, h1, h2⟩ := hv.cons_inv
    unfold purA.purAs at e
    obtain ⟨v', l, q, lP, e1, k1, k2, k3, k4⟩ := purA_ok r d h1 e
    obtain ⟨vs', m, qs', mP, e2, m1, m2, m3, m4⟩ := purAs_ok r d h2 e1
    exact ⟨v' :: vs', l ++ m, q :: qs', lP ++ mP, e2, by simp [mapPur, k1, m1], .cons k2 m2, k3.append m3, k4.append m4⟩
end
theorem pursA_ok (r : RH X h n) : ∀ {vs : List V} {ps : List PV} {K : List V → List Nat → Option β}, VRL X vs ps → pursA h vs K = some x →
    ∃ vs' l qs lP, K vs' l = some x ∧ purl X.h ps = some (qs, lP) ∧ VRL Cx.pure vs' qs ∧ MetA X l lP ∧ Kn X l
  | [], _, K, hv, e => by rw [hv.nil_inv]; exact ⟨[], [], [], [], e, rfl, .nil, .nil, .nil⟩
  | v :: vs, _, K, hv, e => by
    obtain ⟨p, qs, rfl, h1, h2⟩ := hv.cons_inv
    unfold pursA at e
    obtain ⟨v', l, q, lP, e1, k1, k2, k3, k4⟩ := purA_ok r 6 h1 e
    obtain ⟨vs', m, qs', mP, e2, m1, m2, m3, m4⟩ := pursA_ok r h2 e1
    refine ⟨v' :: vs', l ++ m, q :: qs', lP ++ mP, e2, ?_, .cons k2 m2, k3.append m3, k4.append m4⟩
    simp only [purl, show Pi.purDepth = 6 + 6 from rfl, k1, m1]
/-- marks behind a pure copy -/
theorem RH.mark (r : RH X h n) (hn : n ≤ 1048575) {l lP : List Nat} {h' : H} (hm : MetA X l lP) (hk : Kn X l) (e : freezeA h l = some h') (id idP : Nat) :
    ∃ hP' Y, Pi.freeze X.h lP = some hP' ∧ Y.π = X.π ∧ Y.O = X.O ∧ HOk X h n id idP h' hP' Y := by
  obtain ⟨hP', f1, f2, f3⟩ := freeze_ok (Q := fun i => X.Q i ∨ ∃ id ∈ l, ∃ m, X.π id = some (.blk i m)) hm
  obtain ⟨Y, y1, y2, y3⟩ := r.frozen hn hk e f2 f3 (fun q hq hO => by
    rcases (hm q hq).1 with h1 | h1
    · exact absurd hO h1
    · exact h1) id idP
  exact ⟨hP', Y, f1, y1, y2, y3⟩

/-! Built values. -/
def VRP (X : Cx) : List (Nat × Nat × List V) → List (Nat × Nat × List PV) → Prop := L2 fun a b => a.1 = b.1 ∧ a.2.1 = b.2.1 ∧ VRL X a.2.2 b.2.2
theorem fillPA_ok : ∀ {pl : List (Nat × Nat × List V)} {plP : List (Nat × Nat × List PV)} {cs out : List V} {ps : List PV}, VRP X pl plP → VRL X cs ps → fillPA cs pl = some out → ∃ outP, Pi.fillP ps plP = some outP ∧ VRL X out outP
  | [], _, cs, out, ps, h, hc, e => by rw [L2.nil_inv h]; cases e; exact ⟨ps, rfl, hc⟩
  | (off, m, vs) :: pl, _, cs, out, ps, h, hc, e => by
    obtain ⟨⟨off', m', vs'⟩, t, rfl, ⟨h1, h2, h3⟩, h4⟩ := L2.cons_inv h
    simp only at h1 h2 h3; subst h1; subst h2
    unfold fillPA at e
    replace e := bifY e; obtain ⟨hb, e⟩ := e
    obtain ⟨outP, k1, k2⟩ := fillPA_ok h4 (hc.fput h3 off) e
    refine ⟨outP, ?_, k2⟩
    unfold Pi.fillP
    rw [← h3.length, ← hc.length, hb]; exact k1
theorem placesOfA_ok {fs : Array Field} : ∀ {ps : List (Nat × V)} {psP : List (Nat × PV)} {out : List (Nat × Nat × List V)}, VRI X ps psP → placesOfA P fs ps = some out → ∃ outP, Pi.placesOf P fs psP = some outP ∧ VRP X out outP
  | [], _, out, h, e => by rw [L2.nil_inv h]; cases e; exact ⟨[], rfl, .nil⟩
  | (i, v) :: l, _, out, h, e => by
    obtain ⟨⟨i', p⟩, t, rfl, ⟨h1, h2⟩, h4⟩ := L2.cons_inv h
    simp only at h1 h2; subst h1
    unfold placesOfA at e
    split at e
    · rename_i f r hf hr
      obtain ⟨rP, k1, k2⟩ := placesOfA_ok h4 hr
      split at e
      · rename_i sz hsz
        replace e := bifY e; obtain ⟨hb, e⟩ := e
        cases e
        refine ⟨(f.offset, sz, p.cells) :: rP, ?_, .cons ⟨rfl, rfl, h2.cells⟩ k2⟩
        simp only [Pi.placesOf, hf, k1, hsz, hb, cond_true]
      · cases e
    · cases e
theorem placesArrA_ok {size : Nat} : ∀ {ps : List (Nat × V)} {psP : List (Nat × PV)}, VRI X ps psP → VRP X (placesArrA size ps) (Pi.placesArr size psP)
  | [], _, h => by rw [L2.nil_inv h]; exact .nil
  | (i, v) :: l, _, h => by
    obtain ⟨⟨i', p⟩, t, rfl, ⟨h1, h2⟩, h4⟩ := L2.cons_inv h
    simp only at h1 h2; subst h1
    exact .cons ⟨rfl, rfl, h2.cells⟩ (placesArrA_ok h4)
theorem fillEA_ok {size : Nat} : ∀ {ps : List (Nat × V)} {psP : List (Nat × PV)} {es out : List V} {esP : List PV}, VRI X ps psP → VRL X es esP → fillEA size es ps = some out → ∃ outP, Pi.fillE size esP psP = some outP ∧ VRL X out outP
  | [], _, es, out, esP, h, hc, e => by rw [L2.nil_inv h]; cases e; exact ⟨esP, rfl, hc⟩
  | (i, v) :: l, _, es, out, esP, h, hc, e => by
    obtain ⟨⟨i', p⟩, t, rfl, ⟨h1, h2⟩, h4⟩ := L2.cons_inv h
    simp only at h1 h2; subst h1
    unfold fillEA at e
    replace e := bifY e; obtain ⟨hb, e⟩ := e
    obtain ⟨outP, k1, k2⟩ := fillEA_ok h4 (hc.lset i h2) e
    refine ⟨outP, ?_, k2⟩
    unfold Pi.fillE
    rw [← h2.cells.length, ← hc.length, hb]; exact k1
theorem mkElA_ok {ag : Bool} {z : List V} {zP : List PV} {v : V} (h : VRL X z zP) (e : mkElA ag z = some v) : ∃ p, Pi.mkEl ag zP = some p ∧ VR X v p := by
  unfold mkElA at e
  rcases bifT' e with ⟨hb, e⟩ | ⟨hb, e⟩
  · subst hb; cases e; exact ⟨.agg zP, rfl, by simp only [VR]; exact ⟨zP, rfl, h⟩⟩
  · subst hb
    split at e
    · cases e
      obtain ⟨p, qs, rfl, h1, h2⟩ := h.cons_inv
      rw [h2.nil_inv]; exact ⟨p, rfl, h1⟩
    · cases e
theorem buildA_ok {ty : TypeId} {ps : List (Nat × V)} {psP : List (Nat × PV)} {K : V → Option β} (hp : VRI X ps psP) (e : buildA P ty ps K = some x) : ∃ v q, K v = some x ∧ Pi.evBuild P X.h ty psP = some (.val q X.h) ∧ VR X v q := by
  unfold buildA at e
  split at e
  · rename_i z fs hz hu
    replace e := bifY e; obtain ⟨hb, e⟩ := e
    obtain ⟨zP, hz1, hz2⟩ := zeroCellsA_ok (X := X) hz
    split at e
    · rename_i pl hpl
      obtain ⟨plP, k1, k2⟩ := placesOfA_ok hp hpl
      replace e := opt_some e; obtain ⟨cs, hcs, e⟩ := e
      obtain ⟨csP, m1, m2⟩ := fillPA_ok k2 hz2 hcs
      refine ⟨_, .agg csP, e, ?_, by simp only [VR]; exact ⟨csP, rfl, m2⟩⟩
      unfold Pi.evBuild
      simp only [hz1, hu, hb, cond_true, k1, m1]; rfl
    · cases e
  · rename_i z m et hz hu
    obtain ⟨zP, hz1, hz2⟩ := zeroCellsA_ok (X := X) hz
    split at e
    · rename_i sz hsz
      replace e := bifY e; obtain ⟨hb, e⟩ := e
      replace e := opt_some e; obtain ⟨cs, hcs, e⟩ := e
      obtain ⟨csP, m1, m2⟩ := fillPA_ok (placesArrA_ok hp) hz2 hcs
      refine ⟨_, .agg csP, e, ?_, by simp only [VR]; exact ⟨csP, rfl, m2⟩⟩
      unfold Pi.evBuild
      simp only [hz1, hu, hsz, hb, cond_true, m1]; rfl
    · cases e
  · cases e
theorem buildSliceA_ok (r : RH X h n) (hn : n ≤ 1048575) {ty : TypeId} {len : Nat} {ps : List (Nat × V)} {psP : List (Nat × PV)} {K : RA → Option β} (hp : VRI X ps psP) (e : buildSliceA P h ty len ps K = some x) :
    VOk X h n id idP K x (Pi.evBuildSlice P X.h ty len psP) := by
  unfold buildSliceA at e
  split at e
  · rename_i et hu
    split at e
    · rename_i sz ag z hsz hag hz
      obtain ⟨zP, hz1, hz2⟩ := zeroCellsA_ok (X := X) hz
      split at e
      · rename_i z1 hz3
        obtain ⟨z1P, k1, k2⟩ := mkElA_ok hz2 hz3
        replace e := bifN e; obtain ⟨hb, e⟩ := e
        rw [hz2.length] at hb
        replace e := opt_some e; obtain ⟨es, hes, e⟩ := e
        obtain ⟨esP, m1, m2⟩ := fillEA_ok hp (VRL.rep k2 len) hes
        replace e := pursA_ok r m2 e; obtain ⟨vs', l, qs, lP, e, n1, n2, n3, n4⟩ := e
        replace e := opt_some e; obtain ⟨h', hf, e⟩ := e
        obtain ⟨hP', Y, f1, y1, y2, y3⟩ := r.mark hn n3 n4 hf id idP
        refine ⟨_, h', .lst true qs, hP', Y, e, ?_, y3, by simp only [VR]; exact ⟨true, qs, rfl, fun _ => rfl, n2⟩⟩
        unfold Pi.evBuildSlice
        simp only [hu, hsz, hag, hz1, k1, hb, cond_false, m1, n1, f1]; rfl
      · cases e
    · cases e
  · cases e
theorem makeA_ok (r : RH X h n) (w : Nw X n id idP) {ty : TypeId} {same : Bool} {l c : V} {lP cP : PV} {K : RA → Option β} (hs : same = true → lP = cP) (hl : VR X l lP) (hc : VR X c cP) (e : makeA P h id ty same l c K = some x) :
    VOk X h n id idP K x (Pi.evMake P X.h idP ty lP cP) := by
  unfold makeA at e
  split at e
  · rename_i et hu
    split at e
    · rename_i sz ag z ti hsz hag hz hti
      obtain ⟨zP, hz1, hz2⟩ := zeroCellsA_ok (X := X) hz
      replace e := opt_some e; obtain ⟨⟨g, ct⟩, hct, e⟩ := e
      replace e := bifY e; obtain ⟨hb, e⟩ := e
      simp only [Bool.and_eq_true] at hb
      obtain ⟨⟨b1, b2⟩, b3⟩ := hb
      rw [hz2.length] at b3
      replace e := opt_some e; obtain ⟨z1, hz3, e⟩ := e
      obtain ⟨z1P, k1, k2⟩ := mkElA_ok hz2 hz3
      replace e := decE0_ok k2 e; obtain ⟨y, e, hy⟩ := e
      replace e := nat64V_ok hl e; obtain ⟨ln, e, hln⟩ := e
      replace e := nat64V_ok hc e; obtain ⟨cn, e, hcn⟩ := e
      have fin : Nat.ble ln cn = true → Nat.ble cn 1048576 = true → ∀ {v : V}, K (.val v (hput h id (.row g ct (lrep cn y) true false false))) = some x → (∀ Y : Cx, Y.π id = some (.blk idP cn) → VR Y v (.own idP 0 ln)) → VOk X h n id idP K x (Pi.evMake P X.h idP ty lP cP) := by
        intro g1 g2 v e hv
        obtain ⟨hP', Y, y1, y2, y3, y4⟩ := row_new (g := g) (ex := true) (fz := false) r w (L2.replicate hy cn) (fun h => by cases h)
        rw [List.length_replicate] at y4
        refine ⟨_, _, .own idP 0 ln, hP', Y, e, ?_, y2, hv Y y4⟩
        unfold Pi.evMake
        simp only [hu, hln, hcn, hsz, hag, hz1, hti, k1, g1, g2, b1, b2, b3, show Pi.smallN = 1048576 from rfl, Bool.and_self, cond_true, y1]
        rfl
      rcases bifT' e with ⟨hsm, e⟩ | ⟨hsm, e⟩
      · have := hs hsm; subst this
        rw [hln] at hcn; cases hcn
        replace e := gd_some e; obtain ⟨g2, e⟩ := e
        exact fin (by simp) g2 e fun Y hY => by simp only [VR, hY]
      · replace e := gd_some e; obtain ⟨g1, e⟩ := e
        replace e := gd_some e; obtain ⟨g2, e⟩ := e
        exact fin g1 g2 e fun Y hY => by simp only [VR]; exact ⟨_, _, hY, rfl⟩
    · cases e
  · cases e
end
end Go.Proofs.YtopoaknleakdcaaGreat.Sv
