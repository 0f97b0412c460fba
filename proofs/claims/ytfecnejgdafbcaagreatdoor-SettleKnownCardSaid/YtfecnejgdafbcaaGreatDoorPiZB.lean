/- A part of the evaluator of the model's code and of its soundness, for any program. No condition. -/
import Derived.Test.YtfecnejgdafbcaaGreatDoorPiZ
namespace Go.Proofs.YtfecnejgdafbcaaGreatDoor.Pi
set_option linter.all false
variable [Gl]
section
variable {P : Program} {hs h h1 h2 : Hp} {id : Nat}

theorem nil_lay (s : Sub hs h) {p : PV} {r : R} (e : evNil hs p = some r) : RLay hs h id (evNil h p) r := by
  unfold evNil at e ⊢
  split at e <;> first | (cases e; exact rlay_val s rfl) | cases e
theorem bin_lay (s : Sub hs h) {op : BinOp} {ty : TypeId} {x y : Operand} {p q : PV} {r : R} (e : evBin P hs op ty x y p q = some r) : RLay hs h id (evBin P h op ty x y p q) r := by
  unfold evBin at e ⊢
  split at e
  · replace e := bifT e; obtain ⟨hc, e⟩ := e
    simp only [hc, cond_true]; exact vl_lay s e
  · replace e := bifF e; obtain ⟨hc, e⟩ := e
    simp only [hc, cond_false]; exact vl_lay s e
  · exact vl_lay s e
theorem convert_lay (s : Sub hs h) {src dst : TypeId} {p : PV} {r : R} (e : evConvert P hs src dst p = some r) : RLay hs h id (evConvert P h src dst p) r := by
  unfold evConvert at e ⊢
  split at e
  · cases e; exact rlay_val s rfl
  · cases e; exact rlay_val s rfl
  · split at e
    · cases e; exact rlay_val s rfl
    · cases e
  · cases e
theorem ifc_lay (s : Sub hs h) {ty : TypeId} {p : PV} {r : R} (e : evIfc P hs ty p = some r) : RLay hs h id (evIfc P h ty p) r := by
  unfold evIfc at e ⊢
  split at e <;> first | (cases e; exact rlay_val s rfl) | cases e
theorem makeFunc_lay (s : Sub hs h) {f : Fn} {a b : List PV} {r : R} (e : evMakeFunc hs f a b = some r) : RLay hs h id (evMakeFunc h f a b) r := by
  unfold evMakeFunc at e ⊢
  split at e <;> first | (cases e; exact rlay_val s rfl) | cases e
theorem extract_lay (s : Sub hs h) {p : PV} {i : Nat} {r : R} (e : evExtract hs p i = some r) : RLay hs h id (evExtract h p i) r := by
  unfold evExtract at e ⊢
  split at e
  · exact vl_lay s e
  · cases e
theorem field_lay (s : Sub hs h) {ty : TypeId} {p : PV} {f : Nat} {r : R} (e : evField P hs ty p f = some r) : RLay hs h id (evField P h ty p f) r := by
  unfold evField at e ⊢
  split at e
  · split at e
    · rename_i fd hfd
      try rw [hfd]
      exact vl_lay s e
    · cases e
  · cases e
theorem fieldAddr_lay (s : Sub hs h) {ty : TypeId} {p : PV} {f : Nat} {r : R} (e : evFieldAddr P hs ty p f = some r) : RLay hs h id (evFieldAddr P h ty p f) r := by
  unfold evFieldAddr at e ⊢
  split at e
  · split at e
    · rename_i fd hfd
      split at e
      · rename_i n hn
        replace e := bifF e; obtain ⟨hc, e⟩ := e
        try simp only [hfd, hn]
        simp only [hc, cond_false]
        split at e <;> first | (cases e; exact rlay_val s rfl) | cases e
      · cases e
    · cases e
  · cases e
theorem indexAddr_lay (s : Sub hs h) {ty : TypeId} {p q : PV} {r : R} (e : evIndexAddr P hs ty p q = some r) : RLay hs h id (evIndexAddr P h ty p q) r := by
  unfold evIndexAddr at e ⊢
  split at e
  · split at e
    · rename_i n hn
      try simp only [hn]
      split at e
      · split at e
        · rename_i el hel
          try simp only [hel]
          replace e := bifT e; obtain ⟨hc, e⟩ := e
          cases e
          simp only [hc, cond_true]
          exact rlay_val s rfl
        · cases e
      · replace e := bifT e; obtain ⟨hc, e⟩ := e
        simp only [hc, cond_true]
        split at e
        · rename_i es ex fz hb
          rw [s _ _ hb]
          try dsimp only
          split at e
          · rename_i el hel
            try simp only [hel]
            replace e := bifT e; obtain ⟨hc2, e⟩ := e
            cases e
            simp only [hc2, cond_true]
            exact rlay_val s rfl
          · cases e
        · cases e
      · cases e
    · cases e
  · split at e
    · rename_i n hn
      try simp only [hn]
      replace e := bifT e; obtain ⟨hc, e⟩ := e
      simp only [hc, cond_true]
      split at e <;> first | (cases e; exact rlay_val s rfl) | cases e
    · cases e
  · cases e
theorem index_lay (s : Sub hs h) {ty : TypeId} {p q : PV} {r : R} (e : evIndex P hs ty p q = some r) : RLay hs h id (evIndex P h ty p q) r := by
  unfold evIndex at e ⊢
  split at e
  · replace e := bifT e; obtain ⟨hc, e⟩ := e
    simp only [hc, cond_true]
    split at e
    · rename_i n hn
      try simp only [hn]
      exact vl_lay s e
    · cases e
  · split at e
    · rename_i b hb
      try simp only [hb]
      cases e; exact rlay_val s rfl
    · cases e
  · cases e
theorem assert_lay (s : Sub hs h) {ty : TypeId} {p : PV} {ok : Bool} {r : R} (e : evAssert P hs ty p ok = some r) : RLay hs h id (evAssert P h ty p ok) r := by
  have z : ∀ {r : R}, (bif ok then (match zeroEl P ty with
      | some z => some (R.val (.tup [z, .bool false]) hs)
      | none => none) else none) = some r → RLay hs h id (bif ok then (match zeroEl P ty with
      | some z => some (R.val (.tup [z, .bool false]) h)
      | none => none) else none) r := by
    intro r e
    replace e := bifT e; obtain ⟨hc, e⟩ := e
    simp only [hc, cond_true]
    split at e
    · rename_i z hz
      try simp only [hz]
      cases e; exact rlay_val s rfl
    · cases e
  unfold evAssert at e ⊢
  split at e
  · split at e
    · split at e
      · rename_i i hi
        try simp only [hi]
        split at e
        · rename_i hm
          try simp only [hm]
          cases e; exact rlay_val s rfl
        · rename_i mm hm
          try simp only [hm]
          exact z e
      · cases e
    · exact z e
    · cases e
  · split at e
    · cases hc : Nat.beq _ ty with
      | true => rw [hc] at e; cases e; simp only [cond_true]; exact rlay_val s rfl
      | false => rw [hc] at e; simp only [cond_false] at e ⊢; exact z e
    · exact z e
    · cases e
  · cases e
theorem make_lay (s : Sub hs h) (hid : hs.get id = none → h.get id = none) {ty : TypeId} {l c : PV} {r : R} (e : evMake P hs id ty l c = some r) : RLay hs h id (evMake P h id ty l c) r := by
  unfold evMake at e ⊢
  split at e
  · split at e
    · rename_i n ag z ti k1 k2 k3 k4
      try simp only [k1, k2, k3, k4]
      split at e
      · rename_i z1 hz1
        try simp only [hz1]
        replace e := bifT e; obtain ⟨hc, e⟩ := e
        obtain ⟨h1, hn, rfl⟩ := mapOpt e
        obtain ⟨h2, e2, l2⟩ := (Lay.refl s id).new hid hn
        exact ⟨h2, by simp only [hc, cond_true, e2, Option.map_some], l2⟩
      · cases e
    · cases e
  · cases e
theorem cut_lay (s : Sub hs h) {j off len : Nat} {r : R} (e : cutData hs j off len = some r) : RLay hs h id (cutData h j off len) r := by
  unfold cutData at e ⊢
  split at e
  · rename_i f xs ids hp
    rw [pur_sub s _ _ _ hp]
    obtain ⟨h1, hf, rfl⟩ := mapOpt e
    obtain ⟨h2, e2, l2⟩ := Lay.freeze ids (Lay.refl s id) hf
    exact ⟨h2, by simp only [e2, Option.map_some], l2⟩
  · cases e
theorem slice_lay (s : Sub hs h) {ty : TypeId} {p : PV} {lo hi mx : Option PV} {r : R} (e : evSlice P hs ty p lo hi mx = some r) : RLay hs h id (evSlice P h ty p lo hi mx) r := by
  unfold evSlice at e ⊢
  split at e
  · split at e
    · rename_i hh l k1 k2
      try simp only [k1, k2]
      replace e := bifT e; obtain ⟨hc, e⟩ := e
      cases e
      simp only [hc, cond_true]
      exact rlay_val s rfl
    · cases e
  · split at e
    · cases e
    · rename_i n hn
      try simp only [hn]
      split at e
      · split at e
        · rename_i k1 k2 k3
          try simp only [k1, k2, k3]
          replace e := bifF e; obtain ⟨hc, e⟩ := e
          cases e
          simp only [hc, cond_false]
          exact rlay_val s rfl
        · cases e
      · replace e := bifF e; obtain ⟨hc, e⟩ := e
        simp only [hc, cond_false]
        split at e
        · rename_i l hh k1 k2
          try simp only [k1, k2]
          split at e
          · replace e := bifT e; obtain ⟨hc2, e⟩ := e
            cases e
            simp only [hc2, cond_true]
            exact rlay_val s rfl
          · split at e
            · rename_i m hm
              try simp only [hm]
              replace e := bifT e; obtain ⟨hc2, e⟩ := e
              cases e
              simp only [hc2, cond_true]
              exact rlay_val s rfl
            · cases e
        · cases e
      · split at e
        · rename_i es ex fz hb
          rw [s _ _ hb]
          try dsimp only
          replace e := bifF e; obtain ⟨hc, e⟩ := e
          simp only [hc, cond_false]
          split at e
          · rename_i l hh k1 k2
            try simp only [k1, k2]
            replace e := bifF e; obtain ⟨hc1, e⟩ := e
            simp only [hc1, cond_false]
            split at e
            · cases hlt : Nat.blt _ es.length with
              | true => rw [hlt] at e; cases e; simp only [cond_true]; exact rlay_val s rfl
              | false => rw [hlt] at e; cases e; simp only [cond_false]; exact rlay_val s rfl
            · split at e
              · rename_i m hm
                try simp only [hm]
                generalize hA : (hi.isSome && Nat.ble hh m && ex && Nat.beq _ es.length) = A at e ⊢
                cases A with
                | true =>
                  simp only [cond_true] at e ⊢
                  cases hlt : Nat.blt _ es.length with
                  | true => rw [hlt] at e; cases e; simp only [cond_true]; exact rlay_val s rfl
                  | false => rw [hlt] at e; cases e; simp only [cond_false]; exact rlay_val s rfl
                | false =>
                  simp only [cond_false] at e ⊢
                  replace e := bifT e; obtain ⟨hc2, e⟩ := e
                  simp only [hc2, cond_true]
                  exact cut_lay s e
              · cases e
          · cases e
        · cases e
      · cases e
  · cases e
theorem app_lay (s : Sub hs h) (hid : hs.get id = none → h.get id = none) {t : TypeId} {p q : PV} {r : R} (e : papp P hs id t p q = some r) : RLay hs h id (papp P h id t p q) r := by
  unfold papp at e ⊢
  split at e
  · split at e
    · rename_i sz ti new z k1 k2 k3 k4
      rw [elems_sub s k3]
      try simp only [k1, k2, k4]
      replace e := bifF e; obtain ⟨hc, e⟩ := e
      simp only [hc, cond_false]
      have fresh : ∀ {row : Blk} {v : PV} {r : R}, (hs.new id row).map (fun h => R.val v h) = some r → RLay hs h id ((h.new id row).map fun h => R.val v h) r := by
        intro row v r e
        obtain ⟨h1, hn, rfl⟩ := mapOpt e
        obtain ⟨h2, e2, l2⟩ := (Lay.refl s id).new hid hn
        exact ⟨h2, by rw [e2]; rfl, l2⟩
      split at e
      · cases hem : new.isEmpty with
        | true => rw [hem] at e; cases e; simp only [cond_true]; exact rlay_val s rfl
        | false =>
          rw [hem] at e
          simp only [cond_false] at e ⊢
          replace e := bifT e; obtain ⟨hc2, e⟩ := e
          simp only [hc2, cond_true]
          exact fresh e
      · cases hem : new.isEmpty with
        | true => rw [hem] at e; cases e; simp only [cond_true]; exact rlay_val s rfl
        | false =>
          rw [hem] at e
          simp only [cond_false] at e ⊢
          replace e := bifT e; obtain ⟨hc2, e⟩ := e
          simp only [hc2, cond_true]
          exact fresh e
      · split at e
        · rename_i es ex fz hb
          rw [s _ _ hb]
          try dsimp only
          replace e := bifF e; obtain ⟨hc2, e⟩ := e
          simp only [hc2, cond_false]
          cases ex with
          | true =>
            simp only [cond_true] at e ⊢
            cases hem : new.isEmpty with
            | true => rw [hem] at e; cases e; simp only [cond_true]; exact rlay_val s rfl
            | false =>
            rw [hem] at e
            simp only [cond_false] at e ⊢
            generalize Nat.ble _ es.length = A at e ⊢
            cases A with
            | true =>
              simp only [cond_true] at e ⊢
              replace e := bifF e; obtain ⟨hc3, e⟩ := e
              simp only [hc3, cond_false]
              obtain ⟨h1, hset, rfl⟩ := mapOpt e
              obtain ⟨h2, e2, l2⟩ := (Lay.refl s id).set hb hset
              exact ⟨h2, by rw [e2]; rfl, l2⟩
            | false =>
              simp only [cond_false] at e ⊢
              exact fresh e
          | false =>
            simp only [cond_false] at e ⊢
            replace e := bifT e; obtain ⟨hc3, e⟩ := e
            simp only [hc3, cond_true]
            split at e
            · rename_i hd hset
              obtain ⟨h1, hn, rfl⟩ := mapOpt e
              obtain ⟨h2, e2, l2⟩ := (Lay.refl s id).set hb hset
              obtain ⟨h3, e3, l3⟩ := l2.new hid hn
              exact ⟨h3, by simp only [e2, e3, Option.map_some], l3⟩
            · cases e
        · cases e
      · cases e
    · cases e
  · cases e
theorem invoke_call {f : Fn} {a b args : List PV} {r : R} (e : pinvoke P f a b args = some r) : ∃ g as, r = .call g as := by
  unfold pinvoke at e
  split at e
  · obtain ⟨rfl, _⟩ := callIf e; exact ⟨_, _, rfl⟩
  · split at e
    · split at e
      · split at e
        · split at e
          · obtain ⟨rfl, _⟩ := callIf2 e; exact ⟨_, _, rfl⟩
          · cases e
          · obtain ⟨rfl, _⟩ := callIf2 e; exact ⟨_, _, rfl⟩
          · cases e
        · cases e
      · cases e
    · cases e
  · cases e
end
end Go.Proofs.YtfecnejgdafbcaaGreatDoor.Pi
