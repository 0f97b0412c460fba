/- A part of the evaluator of the model's code and of its soundness, for any program. No condition. -/
import Derived.Test.YtfecnejgdafbcaaGreatDoorPiY
namespace Go.Proofs.YtfecnejgdafbcaaGreatDoor.Pi
set_option linter.all false
variable [Gl]
/-! An operation on a part of the heap does the same on the whole of it. -/
section
variable {P : Program} {hs h h1 h2 : Hp} {id : Nat}

def Sub (hs h : Hp) : Prop := ∀ x b, hs.get x = some b → h.get x = some b
structure Lay (hs h h1 h2 : Hp) (id : Nat) : Prop where
  get : ∀ x, h2.get x = match h1.get x with
    | some b => some b
    | none => h.get x
  keys : ∀ x b, h1.get x = some b → (∃ b0, hs.get x = some b0) ∨ x = id
  up : ∀ x, h1.get x = none → hs.get x = none
theorem Lay.refl (s : Sub hs h) (id : Nat) : Lay hs h hs h id := ⟨fun x => by
  cases e : hs.get x with
  | none => rfl
  | some b => exact s x b e, fun x b e => .inl ⟨b, e⟩, fun _ h => h⟩
theorem Lay.sub (l : Lay hs h h1 h2 id) : Sub h1 h2 := fun x b e => by rw [l.get, e]
theorem Hp.set_some {h : Hp} {j : Nat} {b b' : Blk} {h' : Hp} (e : h.set j b = some h') (g : Hp) : ∃ g', g.set j b' = some g' := by
  unfold Hp.set at e ⊢
  cases hb : Nat.blt j (j + 1) with
  | false => rw [hb] at e; cases e
  | true => exact ⟨_, rfl⟩
theorem Lay.set (l : Lay hs h h1 h2 id) {j : Nat} {b b0 : Blk} {h1' : Hp} (hk : h1.get j = some b0) (e : h1.set j b = some h1') : ∃ h2', h2.set j b = some h2' ∧ Lay hs h h1' h2' id := by
  obtain ⟨h2', e2⟩ := Hp.set_some (b' := b) e h2
  have g1 := (Hp.get_set e).1
  have g2 := (Hp.get_set e2).1
  refine ⟨h2', e2, ⟨fun x => ?_, fun x c hx => ?_, fun x hx => l.up x (by
    rw [g1] at hx
    by_cases hxj : x = j
    · rw [if_pos hxj] at hx; cases hx
    · rw [if_neg hxj] at hx; exact hx)⟩⟩
  · rw [g1, g2]
    by_cases hx : x = j
    · simp [hx]
    · simp only [if_neg hx]; exact l.get x
  · rw [g1] at hx
    by_cases hxj : x = j
    · subst hxj; exact l.keys x b0 hk
    · rw [if_neg hxj] at hx; exact l.keys x c hx
theorem Lay.new (l : Lay hs h h1 h2 id) (hid : hs.get id = none → h.get id = none) {b : Blk} {h1' : Hp} (e : h1.new id b = some h1') : ∃ h2', h2.new id b = some h2' ∧ Lay hs h h1' h2' id := by
  obtain ⟨hn, g1, _⟩ := Hp.get_new e
  have hn2 : h2.get id = none := by rw [l.get, hn]; exact hid (l.up id hn)
  unfold Hp.new at e
  have hn' : h1.m.get id = none := hn
  rw [hn'] at e
  obtain ⟨h2', e2⟩ := Hp.set_some (b' := b) e h2
  have g2 := (Hp.get_set e2).1
  refine ⟨h2', ?_, ⟨fun x => ?_, fun x c hx => ?_, fun x hx => l.up x (by
    rw [g1] at hx
    by_cases hxj : x = id
    · rw [if_pos hxj] at hx; cases hx
    · rw [if_neg hxj] at hx; exact hx)⟩⟩
  · unfold Hp.new
    have hn2' : h2.m.get id = none := hn2
    rw [hn2']; exact e2
  · rw [g1, g2]
    by_cases hx : x = id
    · simp [hx]
    · simp only [if_neg hx]; exact l.get x
  · rw [g1] at hx
    by_cases hxj : x = id
    · exact .inr hxj
    · rw [if_neg hxj] at hx; exact l.keys x c hx

theorem mapPur_sub {f g : PV → Option (PV × List Nat)} (hfg : ∀ p r, f p = some r → g p = some r) : ∀ {ps : List PV} {r : List PV × List Nat}, mapPur f ps = some r → mapPur g ps = some r
  | [], r, e => e
  | p :: ps, r, e => by
    unfold mapPur at e ⊢
    split at e
    · rename_i q a qs b h1 h2
      rw [hfg _ _ h1, mapPur_sub hfg h2]; exact e
    · cases e
theorem pur_sub (s : Sub hs h) : ∀ (n : Nat) (p : PV) (r : PV × List Nat), pur hs n p = some r → pur h n p = some r
  | 0, p, r, e => by simp [pur] at e
  | n + 1, p, r, e => by
    have ih := pur_sub s n
    cases p with
    | agg cs => simp only [pur] at e ⊢; obtain ⟨x, hx, rfl⟩ := mapOpt e; rw [mapPur_sub ih hx]; rfl
    | tup cs => simp only [pur] at e ⊢; obtain ⟨x, hx, rfl⟩ := mapOpt e; rw [mapPur_sub ih hx]; rfl
    | ifc t x => simp only [pur] at e ⊢; obtain ⟨y, hy, rfl⟩ := mapOpt e; rw [ih _ _ hy]; rfl
    | fn f a b =>
      simp only [pur] at e ⊢
      split at e
      · rename_i x l y m h1 h2
        rw [mapPur_sub ih h1, mapPur_sub ih h2]; exact e
      · cases e
    | own j off len =>
      simp only [pur] at e ⊢
      split at e
      · rename_i es ex fz hb
        rw [s j _ hb]
        replace e := bifT e; obtain ⟨hc, e⟩ := e
        obtain ⟨x, hx, rfl⟩ := mapOpt e
        simp only [hc, cond_true]
        rw [mapPur_sub ih hx]; rfl
      · cases e
    | ptr j off =>
      simp only [pur] at e ⊢
      split at e
      · rename_i cs fz hb
        rw [s j _ hb]
        replace e := bifT e; obtain ⟨hc, e⟩ := e
        obtain ⟨x, hx, rfl⟩ := mapOpt e
        simp only [hc, cond_true]
        rw [mapPur_sub ih hx]; rfl
      · cases e
    | ept j i off =>
      simp only [pur] at e ⊢
      split at e
      · rename_i es ex fz hb
        rw [s j _ hb]
        dsimp only
        split at e
        · rename_i el hel
          try rw [hel]
          replace e := bifT e; obtain ⟨hc, e⟩ := e
          obtain ⟨x, hx, rfl⟩ := mapOpt e
          simp only [hc, cond_true]
          rw [mapPur_sub ih hx]; rfl
        · cases e
      · cases e
    | yl _ => simp [pur] at e
    | mp _ => simp [pur] at e
    | _ => exact e
theorem purl_sub (s : Sub hs h) : ∀ {ps : List PV} {r : List PV × List Nat}, purl hs ps = some r → purl h ps = some r
  | [], r, e => e
  | p :: ps, r, e => by
    unfold purl at e ⊢
    split at e
    · rename_i q a qs b k1 k2
      rw [pur_sub s _ _ _ k1, purl_sub s k2]; exact e
    · cases e
theorem elems_sub (s : Sub hs h) {p : PV} {es : List PV} (e : elemsOf hs p = some es) : elemsOf h p = some es := by
  unfold elemsOf at e ⊢
  cases p with
  | own j off len =>
    simp only at e ⊢
    split at e
    · rename_i es0 ex fz hb; rw [s j _ hb]; exact e
    · cases e
  | _ => exact e
theorem Lay.freeze : ∀ (L : List Nat) {h1 h2 h1' : Hp}, Lay hs h h1 h2 id → Pi.freeze h1 L = some h1' → ∃ h2', Pi.freeze h2 L = some h2' ∧ Lay hs h h1' h2' id
  | [], h1, h2, h1', l, e => by simp [Pi.freeze] at e; subst e; exact ⟨h2, rfl, l⟩
  | j :: L, h1, h2, h1', l, e => by
    unfold Pi.freeze at e ⊢
    split at e
    · rename_i cs fz hb
      rw [l.sub j _ hb]
      split at e
      · rename_i h3 hset
        obtain ⟨h4, e4, l4⟩ := l.set hb hset
        dsimp only
        rw [e4]
        exact Lay.freeze L l4 e
      · cases e
    · rename_i es ex fz hb
      rw [l.sub j _ hb]
      split at e
      · rename_i h3 hset
        obtain ⟨h4, e4, l4⟩ := l.set hb hset
        dsimp only
        rw [e4]
        exact Lay.freeze L l4 e
      · cases e
    · cases e

/-- what an operation does on the whole heap -/
def RLay (hs h : Hp) (id : Nat) (F : Option R) : R → Prop
  | .val v h1 => ∃ h2, F = some (.val v h2) ∧ Lay hs h h1 h2 id
  | .skip h1 => ∃ h2, F = some (.skip h2) ∧ Lay hs h h1 h2 id
  | .call f args => F = some (.call f args)
  | _ => True
theorem rlay_val (s : Sub hs h) {F : Option R} {v : PV} (e : F = some (.val v h)) : RLay hs h id F (.val v hs) := ⟨h, e, .refl s id⟩
theorem vl_lay (s : Sub hs h) {o : Option PV} {r : R} (e : vl o hs = some r) : RLay hs h id (vl o h) r := by
  obtain ⟨v, rfl, rfl⟩ := vl_ok e
  exact rlay_val s rfl
theorem pick_lay (s : Sub hs h) {c a b : PV} {r : R} (e : evPick hs c a b = some r) : RLay hs h id (evPick h c a b) r := by
  unfold evPick at e ⊢
  split at e <;> cases e <;> exact rlay_val s rfl
theorem alloc_lay (s : Sub hs h) (hid : hs.get id = none → h.get id = none) {el : TypeId} {r : R} (e : evAlloc P hs id el = some r) : RLay hs h id (evAlloc P h id el) r := by
  unfold evAlloc at e ⊢
  split at e
  · obtain ⟨h1, hn, rfl⟩ := mapOpt e
    obtain ⟨h2, e2, l2⟩ := (Lay.refl s id).new hid hn
    exact ⟨h2, by rw [e2]; rfl, l2⟩
  · cases e
theorem box_lay (s : Sub hs h) (hid : hs.get id = none → h.get id = none) {v : PV} {r : R} (e : evBox hs id v = some r) : RLay hs h id (evBox h id v) r := by
  unfold evBox at e ⊢
  split at e
  · cases e
  · obtain ⟨h1, hn, rfl⟩ := mapOpt e
    obtain ⟨h2, e2, l2⟩ := (Lay.refl s id).new hid hn
    exact ⟨h2, by rw [e2]; rfl, l2⟩
theorem build_lay (s : Sub hs h) {ty : TypeId} {ps : List (Nat × PV)} {r : R} (e : evBuild P hs ty ps = some r) : RLay hs h id (evBuild P h ty ps) r := by
  unfold evBuild at e ⊢
  split at e
  · replace e := bifT e; obtain ⟨hc, e⟩ := e
    split at e
    · rename_i pl hpl
      obtain ⟨cs, hcs, rfl⟩ := mapOpt e
      refine rlay_val s ?_
      simp only [hc, cond_true, hcs, Option.map_some]
    · cases e
  · split at e
    · rename_i n hn
      replace e := bifT e; obtain ⟨hc, e⟩ := e
      obtain ⟨cs, hcs, rfl⟩ := mapOpt e
      refine rlay_val s ?_
      simp only [hc, cond_true, hcs, Option.map_some]
    · cases e
  · cases e
theorem buildSlice_lay (s : Sub hs h) {ty : TypeId} {len : Nat} {ps : List (Nat × PV)} {r : R} (e : evBuildSlice P hs ty len ps = some r) : RLay hs h id (evBuildSlice P h ty len ps) r := by
  unfold evBuildSlice at e ⊢
  split at e
  · split at e
    · rename_i n ag z hn hag hz
      try rw [hn, hag, hz]
      try dsimp only
      split at e
      · rename_i z1 hz1
        try rw [hz1]
        replace e := bifF e; obtain ⟨hc, e⟩ := e
        split at e
        · rename_i es hes
          split at e
          · rename_i qs l hp
            obtain ⟨h1, hf, rfl⟩ := mapOpt e
            obtain ⟨h2, e2, l2⟩ := Lay.freeze l (Lay.refl s id) hf
            refine ⟨h2, ?_, l2⟩
            simp only [hc, cond_false, purl_sub s hp, e2, Option.map_some]
          · cases e
        · cases e
      · cases e
    · cases e
  · cases e
theorem load_lay (s : Sub hs h) {ty : TypeId} {p : PV} {r : R} (e : evLoad P hs ty p = some r) : RLay hs h id (evLoad P h ty p) r := by
  unfold evLoad at e ⊢
  split at e
  · split at e
    · rename_i cs fz hb; rw [s _ _ hb]; exact vl_lay s e
    · cases e
  · exact vl_lay s e
  · split at e
    · rename_i es ex fz hb
      rw [s _ _ hb]
      dsimp only
      split at e
      · rename_i el hel; try rw [hel]
        exact vl_lay s e
      · cases e
    · cases e
  · cases e
theorem store_lay (s : Sub hs h) {ty : TypeId} {p v : PV} {r : R} (e : evStore P hs ty p v = some r) : RLay hs h id (evStore P h ty p v) r := by
  unfold evStore at e ⊢
  split at e
  · rename_i n hn
    replace e := bifF e; obtain ⟨hc, e⟩ := e
    simp only [hc, cond_false]
    split at e
    · split at e
      · rename_i cs hb
        rw [s _ _ hb]
        replace e := bifT e; obtain ⟨hc2, e⟩ := e
        obtain ⟨h1, hset, rfl⟩ := mapOpt e
        obtain ⟨h2, e2, l2⟩ := (Lay.refl s id).set hb hset
        exact ⟨h2, by simp only [hc2, cond_true, e2, Option.map_some], l2⟩
      · cases e
    · split at e
      · rename_i es ex hb
        rw [s _ _ hb]
        dsimp only
        split at e
        · rename_i el hel
          try rw [hel]
          replace e := bifT e; obtain ⟨hc2, e⟩ := e
          simp only [hc2, cond_true]
          split at e
          · obtain ⟨h1, hset, rfl⟩ := mapOpt e
            obtain ⟨h2, e2, l2⟩ := (Lay.refl s id).set hb hset
            exact ⟨h2, by simp only [e2, Option.map_some], l2⟩
          · split at e
            · rename_i c hvc
              try rw [hvc]
              replace e := bifT e; obtain ⟨hc3, e⟩ := e
              simp only [hc3, cond_true]
              split at e
              · cases e
              · cases e
              · obtain ⟨h1, hset, rfl⟩ := mapOpt e
                obtain ⟨h2, e2, l2⟩ := (Lay.refl s id).set hb hset
                exact ⟨h2, by simp only [e2, Option.map_some], l2⟩
            · cases e
        · cases e
      · cases e
    · cases e
  · cases e
end
end Go.Proofs.YtfecnejgdafbcaaGreatDoor.Pi
