/- A part of the evaluator of the model's code and of its soundness, for any program. No condition. -/
import Derived.Test.YtfecnejgdafbcaaGreatDoorPiZC
namespace Go.Proofs.YtfecnejgdafbcaaGreatDoor.Pi
set_option linter.all false
variable [Gl]
section
variable {P : Program} {rec : Rec} {hs h h1 h2 : Hp} {id : Nat}

/-! The heap's parts. -/
theorem restr_get : ∀ (l : List Nat) (m : T Blk) (x : Nat), (restr h l m).get x = if x ∈ l ∧ x < x + 1 ∧ (h.get x).isSome then h.get x else m.get x
  | [], m, x => by simp [restr]
  | j :: l, m, x => by
    unfold restr
    split
    · rename_i b hb
      cases hlt : Nat.blt j (j + 1) with
      | true =>
        simp only [cond_true]
        have hlt' : j < j + 1 := by omega
        rw [restr_get l _ x, T.get_put (j + 1) m j b x (idlt j)]
        by_cases hx : x ∈ l ∧ x < x + 1 ∧ (h.get x).isSome
        · rw [if_pos hx, if_pos ⟨by simp [hx.1], hx.2⟩]
        · rw [if_neg hx]
          by_cases hxj : x = j
          · subst hxj; rw [if_pos rfl, if_pos ⟨by simp, hlt', by simp [hb]⟩, hb]
          · rw [if_neg hxj, if_neg]
            rintro ⟨a, b, c⟩
            simp only [List.mem_cons] at a
            rcases a with a | a
            · exact hxj a
            · exact hx ⟨a, b, c⟩
      | false =>
        simp only [cond_false]
        rw [restr_get l m x]
        have hge : ¬ j < j + 1 := by
          intro h; have : Nat.blt j (j + 1) = true := by simp
          rw [this] at hlt; cases hlt
        by_cases hx : x ∈ l ∧ x < x + 1 ∧ (h.get x).isSome
        · rw [if_pos hx, if_pos ⟨by simp [hx.1], hx.2⟩]
        · rw [if_neg hx, if_neg]
          rintro ⟨a, b, c⟩
          simp only [List.mem_cons] at a
          rcases a with a | a
          · subst a; exact hge b
          · exact hx ⟨a, b, c⟩
    · rename_i hb
      rw [restr_get l m x]
      by_cases hx : x ∈ l ∧ x < x + 1 ∧ (h.get x).isSome
      · rw [if_pos hx, if_pos ⟨by simp [hx.1], hx.2⟩]
      · rw [if_neg hx, if_neg]
        rintro ⟨a, b, c⟩
        simp only [List.mem_cons] at a
        rcases a with a | a
        · subst a; rw [hb] at c; cases c
        · exact hx ⟨a, b, c⟩
theorem cut_get (l : List Nat) (x : Nat) : (h.cut l).get x = if x ∈ l ∧ x < x + 1 then h.get x else none := by
  have := restr_get (h := h) l .lf x
  show (restr h l .lf).get x = _
  rw [this]
  by_cases hx : x ∈ l ∧ x < x + 1
  · rw [if_pos hx]
    cases hg : h.get x with
    | none => rw [if_neg (by simp)]; rfl
    | some b => rw [if_pos ⟨hx.1, hx.2, by simp⟩]
  · rw [if_neg hx, if_neg fun h => hx ⟨h.1, h.2.1⟩]; rfl
theorem cut_some {l : List Nat} {x : Nat} {b : Blk} (e : (h.cut l).get x = some b) : x ∈ l ∧ h.get x = some b := by
  rw [cut_get] at e
  split at e
  · rename_i hx; exact ⟨hx.1, e⟩
  · cases e
theorem over_get : ∀ {l : List Nat} {h h2 : Hp}, over h1 l h = some h2 → ∀ x, h2.get x = if x ∈ l then (match h1.get x with
    | some b => some b
    | none => h.get x) else h.get x
  | [], h, h2, e, x => by simp [over] at e; subst e; simp
  | j :: l, h, h2, e, x => by
    unfold over at e
    split at e
    · rename_i b hb
      split at e
      · rename_i h3 hset
        rw [over_get e x, (Hp.get_set hset).1 x]
        by_cases hxj : x = j
        · subst hxj; simp [hb]
        · by_cases hx : x ∈ l
          · rw [if_pos hx, if_pos (show x ∈ j :: l by simp [hx]), if_neg hxj]
          · rw [if_neg hx, if_neg (show ¬ x ∈ j :: l by simp [hxj, hx]), if_neg hxj]
      · cases e
    · rename_i hb
      rw [over_get e x]
      by_cases hxj : x = j
      · subst hxj; simp [hb]
      · by_cases hx : x ∈ l
        · rw [if_pos hx, if_pos (show x ∈ j :: l by simp [hx])]
        · rw [if_neg hx, if_neg (show ¬ x ∈ j :: l by simp [hxj, hx])]
def isFz : Blk → Prop
  | .box _ fz => fz = true
  | .row _ _ fz => fz = true
  | _ => False
theorem unfrozen_not : ∀ {l : List Nat} {x : Nat}, x ∈ l → x ∉ unfrozen h l → ∃ b, h.get x = some b ∧ isFz b
  | [], x, hx, _ => by simp at hx
  | j :: l, x, hx, hn => by
    unfold unfrozen at hn
    simp only [List.mem_cons] at hx
    split at hn
    · rename_i cs hb
      rcases hx with rfl | hx
      · exact ⟨_, hb, rfl⟩
      · exact unfrozen_not hx hn
    · rename_i es ex hb
      rcases hx with rfl | hx
      · exact ⟨_, hb, rfl⟩
      · exact unfrozen_not hx hn
    · simp only [List.mem_cons, not_or] at hn
      rcases hx with rfl | hx
      · exact absurd rfl hn.1
      · exact unfrozen_not hx hn.2
theorem unfrozen_sub : ∀ {l : List Nat} {x : Nat}, x ∈ unfrozen h l → x ∈ l
  | [], x, hx => by simp [unfrozen] at hx
  | j :: l, x, hx => by
    unfold unfrozen at hx
    split at hx
    · simp [unfrozen_sub hx]
    · simp [unfrozen_sub hx]
    · simp only [List.mem_cons] at hx
      rcases hx with rfl | hx
      · simp
      · simp [unfrozen_sub hx]

/-! What is frozen stays. -/
def Stays (hs h1 : Hp) : Prop := ∀ x b, hs.get x = some b → isFz b → h1.get x = some b
theorem Stays.refl (hs : Hp) : Stays hs hs := fun _ _ h _ => h
theorem stays_new {b : Blk} (e : hs.new id b = some h1) : Stays hs h1 := by
  obtain ⟨hn, hg, _⟩ := Hp.get_new e
  intro x c hx _
  rw [hg, if_neg (by intro h; subst h; rw [hn] at hx; cases hx)]; exact hx
theorem stays_set {j : Nat} {b b0 : Blk} (hb : hs.get j = some b0) (e : hs.set j b = some h1) (h0 : isFz b0 → b = b0) : Stays hs h1 := by
  have hg := (Hp.get_set e).1
  intro x c hx hf
  rw [hg]
  by_cases hxj : x = j
  · subst hxj; rw [hb] at hx; cases hx; rw [if_pos rfl, h0 hf]
  · rw [if_neg hxj]; exact hx
theorem Stays.trans {h3 : Hp} (a : Stays hs h1) (b : Stays h1 h3) : Stays hs h3 := fun x c hx hf => b x c (a x c hx hf) hf
theorem stays_freeze : ∀ (L : List Nat) {hs h1 : Hp}, freeze hs L = some h1 → Stays hs h1
  | [], hs, h1, e => by simp [freeze] at e; subst e; exact .refl _
  | j :: L, hs, h1, e => by
    unfold freeze at e
    split at e
    · rename_i cs fz hb
      split at e
      · rename_i h3 hset
        exact (stays_set hb hset fun h => by have h : fz = true := h; subst h; rfl).trans (stays_freeze L e)
      · cases e
    · rename_i es ex fz hb
      split at e
      · rename_i h3 hset
        exact (stays_set hb hset fun h => by have h : fz = true := h; subst h; rfl).trans (stays_freeze L e)
      · cases e
    · cases e
theorem evalOp_stays {t : T PV} {o : Oper} (hdr : drawable o.op = true) (happ : isApp o.op = false) (hq : quiet o.op = false) {r : R} (e : evalOp P t hs id o = some r) : ∀ h1, ((∃ v, r = .val v h1) ∨ r = .skip h1) → Stays hs h1 := by
  intro h1 hr
  unfold evalOp at e
  generalize hop : o.op = op at hdr hq happ e
  have nw : ∀ {b : Blk} {v : PV}, (hs.new id b).map (fun h => R.val v h) = some r → Stays hs h1 := by
    intro b v e
    obtain ⟨h3, hn, rfl⟩ := mapOpt e
    rcases hr with ⟨v', hr⟩ | hr <;> cases hr
    exact stays_new hn
  have fr : ∀ {L : List Nat} {v : PV}, (freeze hs L).map (fun h => R.val v h) = some r → Stays hs h1 := by
    intro L v e
    obtain ⟨h3, hn, rfl⟩ := mapOpt e
    rcases hr with ⟨v', hr⟩ | hr <;> cases hr
    exact stays_freeze L hn
  have same : ∀ {v : PV}, R.val v hs = r → Stays hs h1 := by
    intro v e
    subst e
    rcases hr with ⟨v', hr⟩ | hr <;> cases hr
    exact .refl _
  cases op with
  | alloc _ =>
    simp only at e
    unfold evAlloc at e
    split at e
    · exact nw e
    · cases e
  | box _ x =>
    obtain ⟨p, _, e⟩ := e1_some e
    unfold evBox at e
    split at e
    · cases e
    · exact nw e
  | makeMap ty rs =>
    cases rs with
    | none => exact nw e
    | some _ => cases e
  | makeSlice _ x y =>
    obtain ⟨p, q, _, _, e⟩ := e2_some e
    unfold evMake at e
    simp only [Bool.cond_eq_ite] at e
    repeat' split at e
    all_goals first | (cases e; done) | exact nw e
  | buildSlice ty n ps =>
    simp only at e
    split at e
    · unfold evBuildSlice at e
      simp only [Bool.cond_eq_ite] at e
      repeat' split at e
      all_goals first | (cases e; done) | exact fr e
    · cases e
  | slice ty x lo hi mx =>
    simp only at e
    split at e
    · obtain ⟨p, _, e⟩ := e1_some e
      unfold evSlice cutData at e
      simp only [Bool.cond_eq_ite] at e
      repeat' split at e
      all_goals first | (cases e; done) | exact fr e | exact same (Option.some.inj e)
    · cases e
  | store _ x y =>
    obtain ⟨p, q, _, _, e⟩ := e2_some e
    unfold evStore at e
    simp only [Bool.cond_eq_ite] at e
    repeat' split at e
    all_goals first | (cases e; done) | skip
    all_goals
      obtain ⟨h3, hn, rfl⟩ := mapOpt e
      rcases hr with ⟨v', hr⟩ | hr <;> cases hr
      refine stays_set (by assumption) hn fun h => ?_
      cases h
  | call c =>
    simp only [drawable, isApp, quiet] at hdr happ hq
    simp only at e
    split at e
    · cases hc : c.callee with
      | builtin b =>
        simp only [hc] at hdr happ hq
        by_cases hb : b = .copy
        · subst hb
          simp only [hc] at e
          simp only [pbuiltin, Bool.cond_eq_ite] at e
          repeat' split at e
          all_goals first | (cases e; done) | skip
          all_goals
            obtain ⟨h3, hn, rfl⟩ := mapOpt e
            rcases hr with ⟨v', hr⟩ | hr <;> cases hr
            refine stays_set (by assumption) hn fun h => ?_
            cases h
        · cases b <;> simp_all
      | value f =>
        simp only [hc] at e
        obtain ⟨p, _, e⟩ := e1_some e
        unfold evCallV at e
        split at e
        · obtain ⟨g, as, rfl⟩ := invoke_call e
          rcases hr with ⟨v', hr⟩ | hr <;> cases hr
        · cases e
          rcases hr with ⟨v', hr⟩ | hr <;> cases hr
        · cases e
      | invoke rc nm =>
        simp only [hc] at e
        obtain ⟨p, _, e⟩ := e1_some e
        obtain ⟨g, as, rfl⟩ := invoke_call e
        rcases hr with ⟨v', hr⟩ | hr <;> cases hr
    · cases e
  | lookup _ _ _ _ => cases hdr
  | mapUpdate _ _ _ _ => cases hdr
  | insert _ _ _ _ => cases hdr
  | defer _ => cases hdr
  | panic _ => cases hdr
  | _ => first | cases hq | cases e

/-! Calls. -/
theorem call_lay (s : Sub hs h) (hid : hs.get id = none → h.get id = none) {f : FuncId} {args : List PV} {v : PV} (e : doCall (fun _ => false) rec id f args hs = some (.ret v, h1)) :
    (∃ h2, doCall (fun _ => false) rec id f args h = some (.ret v, h2) ∧ Lay hs h h1 h2 id) ∧ (flat v = true → h1 = hs) ∧ Stays hs h1 := by
  unfold doCall at e ⊢
  simp only [cond_false] at e ⊢
  split at e
  · rename_i as l hp
    rw [purl_sub s hp]
    dsimp only
    split at e
    · rename_i r u1 h' hrec
      try simp only [hrec]
      obtain ⟨⟨q, hq⟩, hb, e⟩ := mapOpt e
      cases e
      unfold handBack at hb ⊢
      split at hb
      · rename_i len qs ex hm
        try dsimp only
        split at hb
        · rename_i h3 hf
          obtain ⟨h4, hn, hb⟩ := mapOpt hb
          cases hb
          cases hfl : flatl qs with
          | true =>
            simp only [hfl, cond_true] at hf ⊢
            cases hf
            obtain ⟨h5, e5, l5⟩ := (Lay.refl s id).new hid hn
            refine ⟨⟨h5, by simp only [e5, Option.map_some], l5⟩, (by intro h; cases h), stays_new hn⟩
          | false =>
            simp only [hfl, cond_false] at hf ⊢
            obtain ⟨h6, e6, l6⟩ := Lay.freeze l (Lay.refl s id) hf
            obtain ⟨h5, e5, l5⟩ := l6.new hid hn
            refine ⟨⟨h5, by simp only [e6, e5, Option.map_some], l5⟩, (by intro h; cases h), (stays_freeze l hf).trans (stays_new hn)⟩
        · cases hb
      · rename_i hm
        try dsimp only
        split at hb
        · rename_i q' l2 hq'
          try simp only [hq']
          cases hfl : flat q' with
          | true =>
            simp only [hfl, cond_true] at hb ⊢
            cases hb
            exact ⟨⟨h, rfl, .refl s id⟩, fun _ => rfl, .refl _⟩
          | false =>
            simp only [hfl, cond_false] at hb ⊢
            obtain ⟨h4, hf, hb⟩ := mapOpt hb
            cases hb
            obtain ⟨h6, e6, l6⟩ := Lay.freeze l (Lay.refl s id) hf
            exact ⟨⟨h6, by simp only [e6, Option.map_some], l6⟩, (by intro h; rw [hfl] at h; cases h), stays_freeze l hf⟩
        · cases hb
    · split at e
      · replace e := bifT e; cases e.2
      · cases e
    · cases e
  · cases e
end
end Go.Proofs.YtfecnejgdafbcaaGreatDoor.Pi
