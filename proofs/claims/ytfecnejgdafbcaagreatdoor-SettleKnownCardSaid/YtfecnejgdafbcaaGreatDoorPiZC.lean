/- A part of the evaluator of the model's code and of its soundness, for any program. No condition. -/
import Derived.Test.YtfecnejgdafbcaaGreatDoorPiZB
namespace Go.Proofs.YtfecnejgdafbcaaGreatDoor.Pi
set_option linter.all false
variable [Gl]
section
variable {P : Program} {hs h h1 h2 : Hp} {id : Nat}

/-! Operations see no more of the temporaries than their operands. -/
def AgreeO (t t' : T PV) (l : List Operand) : Prop := ∀ k, .tmp k ∈ l → t.get k = t'.get k
theorem evs_agree {t t' : T PV} {l : List Operand} (ha : AgreeO t t' l) {o : Operand} (ho : o ∈ l) : evs t o = evs t' o := by
  cases o with
  | tmp k => simp only [evs, ha k ho]
  | _ => rfl
theorem evl_agree {t t' : T PV} {l : List Operand} (ha : AgreeO t t' l) : ∀ {os : List Operand}, (∀ o ∈ os, o ∈ l) → evl t os = evl t' os
  | [], _ => rfl
  | o :: os, ho => by
    unfold evl
    rw [evs_agree ha (ho o (by simp)), evl_agree ha fun x hx => ho x (by simp [hx])]
theorem partsOf_agree {t t' : T PV} {l : List Operand} (ha : AgreeO t t' l) : ∀ {ps : List (Nat × Operand)}, (∀ o ∈ ps, o.2 ∈ l) → partsOf t ps = partsOf t' ps
  | [], _ => rfl
  | (i, o) :: os, ho => by
    unfold partsOf
    rw [evs_agree ha (ho (i, o) (by simp)), partsOf_agree ha fun x hx => ho x (by simp [hx])]
theorem evo_agree {t t' : T PV} {l : List Operand} (ha : AgreeO t t' l) {o : Option Operand} (ho : ∀ x ∈ o.toList, x ∈ l) : evo t o = evo t' o := by
  cases o with
  | none => rfl
  | some x => simp only [evo, evs_agree ha (ho x (by simp))]
theorem evalOp_agree {t t' : T PV} {o : Oper} (hdr : drawable o.op = true) (ha : AgreeO t t' (opnds o.op)) : evalOp P t h id o = evalOp P t' h id o := by
  unfold evalOp
  generalize hop : o.op = op at ha hdr
  have e := fun x hx => evs_agree ha (o := x) hx
  cases op with
  | call c =>
    simp only [drawable] at hdr
    simp only [opnds] at ha e
    cases hc : c.callee with
    | builtin b =>
      rw [hc] at ha
      simp only [hc]
      rw [evl_agree ha fun x hx => hx]
    | value f =>
      rw [hc] at ha e
      simp only [hc, e1]
      rw [evl_agree ha fun x hx => by simp [hx], e f (by simp)]
    | invoke r nm =>
      rw [hc] at ha e
      simp only [hc, e1]
      rw [evl_agree ha fun x hx => by simp [hx], e r (by simp)]
  | build ty ps =>
    simp only [opnds] at ha
    simp only
    rw [partsOf_agree ha fun x hx => List.mem_map.2 ⟨x, hx, rfl⟩]
  | buildSlice ty n ps =>
    simp only [opnds] at ha
    simp only
    rw [partsOf_agree ha fun x hx => List.mem_map.2 ⟨x, hx, rfl⟩]
  | makeFunc f x y =>
    simp only [opnds] at ha
    simp only
    rw [evl_agree ha fun z hz => List.mem_append_left _ hz, evl_agree ha fun z hz => List.mem_append_right _ hz]
  | slice ty x lo hi mx =>
    simp only [opnds] at ha e
    simp only [e1]
    rw [evo_agree (o := lo) ha fun z hz => by simp at hz ⊢; simp [hz], evo_agree (o := hi) ha fun z hz => by simp at hz ⊢; simp [hz], evo_agree (o := mx) ha fun z hz => by simp at hz ⊢; simp [hz], e x (by simp)]
  | lookup _ _ _ _ => cases hdr
  | mapUpdate _ _ _ _ => cases hdr
  | insert _ _ _ _ => cases hdr
  | defer _ => cases hdr
  | panic _ => cases hdr
  | move x => simp only [opnds] at e; simp only [e x (by simp)]
  | assign x => simp only [opnds] at e; simp only [e x (by simp)]
  | pick c x y => simp only [opnds] at e; simp only [e3, e c (by simp), e x (by simp), e y (by simp)]
  | alloc _ => rfl
  | box _ x => simp only [opnds] at e; simp only [e1, e x (by simp)]
  | load _ x => simp only [opnds] at e; simp only [e1, e x (by simp)]
  | store _ x y => simp only [opnds] at e; simp only [e2, e x (by simp), e y (by simp)]
  | nilCheck x => simp only [opnds] at e; simp only [e1, e x (by simp)]
  | binOp _ _ x y _ => simp only [opnds] at e; simp only [e2, e x (by simp), e y (by simp)]
  | unOp _ _ x => simp only [opnds] at e; simp only [e1, e x (by simp)]
  | convert _ _ x => simp only [opnds] at e; simp only [e1, e x (by simp)]
  | makeInterface _ x => simp only [opnds] at e; simp only [e1, e x (by simp)]
  | makeMap ty r => cases r <;> rfl
  | makeSlice _ x y => simp only [opnds] at e; simp only [e2, e x (by simp), e y (by simp)]
  | fieldAddr _ x _ => simp only [opnds] at e; simp only [e1, e x (by simp)]
  | field _ x _ => simp only [opnds] at e; simp only [e1, e x (by simp)]
  | indexAddr _ x y => simp only [opnds] at e; simp only [e2, e x (by simp), e y (by simp)]
  | index _ x y => simp only [opnds] at e; simp only [e2, e x (by simp), e y (by simp)]
  | typeAssert x _ _ _ => simp only [opnds] at e; simp only [e1, e x (by simp)]
  | extract x _ => simp only [opnds] at e; simp only [e1, e x (by simp)]
  | _ => rfl

theorem e1_some {t : T PV} {x : Operand} {k : PV → Option R} {r : R} (e : e1 t x k = some r) : ∃ p, evs t x = some p ∧ k p = some r := by
  unfold e1 at e
  split at e
  · rename_i p hp; exact ⟨p, hp, e⟩
  · cases e
theorem e2_some {t : T PV} {x y : Operand} {k : PV → PV → Option R} {r : R} (e : e2 t x y k = some r) : ∃ p q, evs t x = some p ∧ evs t y = some q ∧ k p q = some r := by
  unfold e2 at e
  split at e
  · rename_i p q hp hq; exact ⟨p, q, hp, hq, e⟩
  · cases e
theorem e3_some {t : T PV} {x y z : Operand} {k : PV → PV → PV → Option R} {r : R} (e : e3 t x y z k = some r) : ∃ p q s, evs t x = some p ∧ evs t y = some q ∧ evs t z = some s ∧ k p q s = some r := by
  unfold e3 at e
  split at e
  · rename_i p q s hp hq hs; exact ⟨p, q, s, hp, hq, hs, e⟩
  · cases e
theorem fold_lay (s : Sub hs h) {f : Int → Int → Int} {a : Int} {l : List PV} {k : IntKind} {r : R} (e : (foldInt f a l k).map (fun m => R.val (.int k m) hs) = some r) : RLay hs h id ((foldInt f a l k).map fun m => R.val (.int k m) h) r := by
  obtain ⟨m, hm, rfl⟩ := mapOpt e
  exact rlay_val s (by rw [hm]; rfl)
theorem builtin_lay (s : Sub hs h) (hid : hs.get id = none → h.get id = none) {b : Builtin} (hb : b = .len ∨ b = .cap ∨ b = .append ∨ b = .copy ∨ b = .max ∨ b = .min) {ats : Array TypeId} {args : List PV} {r : R} (e : pbuiltin P hs id b ats args = some r) :
    RLay hs h id (pbuiltin P h id b ats args) r := by
  rcases hb with rfl | rfl | rfl | rfl | rfl | rfl
  · simp only [pbuiltin] at e ⊢
    split at e
    · rename_i x t hat
      try simp only [hat]
      split at e
      · split at e
        · rename_i es hbk
          try simp only [hbk]
          rw [s _ _ hbk]
          cases e; exact rlay_val s rfl
        · cases e
      all_goals first | (cases e; done) | (cases e; exact rlay_val s rfl)
    · cases e
  · simp only [pbuiltin] at e ⊢
    split at e
    · rename_i x t hat
      try simp only [hat]
      split at e
      · split at e
        · rename_i es fz hbk
          try simp only [hbk]
          rw [s _ _ hbk]
          cases e; exact rlay_val s rfl
        · cases e
      all_goals first | (cases e; done) | (cases e; exact rlay_val s rfl)
    · cases e
  · simp only [pbuiltin] at e ⊢
    split at e
    · rename_i p q t t' hats
      try simp only [hats]
      replace e := bifT e; obtain ⟨hc, e⟩ := e
      simp only [hc, cond_true]
      exact app_lay s hid e
    · cases e
  · simp only [pbuiltin] at e ⊢
    split at e
    · rename_i j off len x t hat
      try simp only [hat]
      split at e
      · rename_i ety es ex new k1 k2 k3
        simp only [k1, s _ _ k2, elems_sub s k3]
        split at e
        · rename_i sz hsz
          replace e := bifF e; obtain ⟨hc, e⟩ := e
          simp only [hc, cond_false]
          obtain ⟨h1, hset, rfl⟩ := mapOpt e
          obtain ⟨h2, e2, l2⟩ := (Lay.refl s id).set k2 hset
          exact ⟨h2, by simp only [e2, Option.map_some], l2⟩
        · cases e
      · cases e
    · cases e
  · simp only [pbuiltin] at e ⊢
    split at e
    · exact fold_lay s e
    · cases e; exact rlay_val s rfl
    · cases e
  · simp only [pbuiltin] at e ⊢
    split at e
    · exact fold_lay s e
    · cases e; exact rlay_val s rfl
    · cases e
theorem rlay_call {F : Option R} {r : R} (e : F = some r) (hc : ∃ g as, r = .call g as) : RLay hs h id F r := by
  obtain ⟨g, as, rfl⟩ := hc
  exact e
theorem evalOp_lay (s : Sub hs h) (hid : hs.get id = none → h.get id = none) {t : T PV} {o : Oper} (hdr : drawable o.op = true) {r : R} (e : evalOp P t hs id o = some r) : RLay hs h id (evalOp P t h id o) r := by
  unfold evalOp at e ⊢
  generalize hop : o.op = op at hdr e ⊢
  cases op with
  | lookup _ _ _ _ => cases hdr
  | mapUpdate _ _ _ _ => cases hdr
  | insert _ _ _ _ => cases hdr
  | defer _ => cases hdr
  | panic _ => cases hdr
  | move x => exact vl_lay s e
  | assign x => exact vl_lay s e
  | pick c x y => obtain ⟨p, q, u, h1, h2, h3, e⟩ := e3_some e; simp only [e3, h1, h2, h3]; exact pick_lay s e
  | alloc _ => exact alloc_lay s hid e
  | box _ x => obtain ⟨p, h1, e⟩ := e1_some e; simp only [e1, h1]; exact box_lay s hid e
  | build ty ps =>
    simp only at e ⊢
    split at e
    · rename_i p hp; try simp only [hp]
      exact build_lay s e
    · cases e
  | buildSlice ty n ps =>
    simp only at e ⊢
    split at e
    · rename_i p hp; try simp only [hp]
      exact buildSlice_lay s e
    · cases e
  | load _ x => obtain ⟨p, h1, e⟩ := e1_some e; simp only [e1, h1]; exact load_lay s e
  | store _ x y => obtain ⟨p, q, h1, h2, e⟩ := e2_some e; simp only [e2, h1, h2]; exact store_lay s e
  | nilCheck x => obtain ⟨p, h1, e⟩ := e1_some e; simp only [e1, h1]; exact nil_lay s e
  | binOp _ _ x y _ => obtain ⟨p, q, h1, h2, e⟩ := e2_some e; simp only [e2, h1, h2]; exact bin_lay s e
  | unOp _ _ x => obtain ⟨p, h1, e⟩ := e1_some e; simp only [e1, h1]; exact vl_lay s e
  | convert _ _ x => obtain ⟨p, h1, e⟩ := e1_some e; simp only [e1, h1]; exact convert_lay s e
  | makeInterface _ x => obtain ⟨p, h1, e⟩ := e1_some e; simp only [e1, h1]; exact ifc_lay s e
  | makeFunc f x y =>
    simp only at e ⊢
    split at e
    · rename_i p q hp hq; try simp only [hp, hq]
      exact makeFunc_lay s e
    · cases e
  | makeMap ty rs =>
    cases rs with
    | none =>
      simp only at e ⊢
      obtain ⟨h1, hn, rfl⟩ := mapOpt e
      obtain ⟨h2, e2, l2⟩ := (Lay.refl s id).new hid hn
      exact ⟨h2, by rw [e2]; rfl, l2⟩
    | some _ => cases e
  | makeSlice _ x y => obtain ⟨p, q, h1, h2, e⟩ := e2_some e; simp only [e2, h1, h2]; exact make_lay s hid e
  | slice ty x lo hi mx =>
    simp only at e ⊢
    split at e
    · rename_i k1 k2 k3; try simp only [k1, k2, k3]
      obtain ⟨p, h1, e⟩ := e1_some e; simp only [e1, h1]; exact slice_lay s e
    · cases e
  | fieldAddr _ x _ => obtain ⟨p, h1, e⟩ := e1_some e; simp only [e1, h1]; exact fieldAddr_lay s e
  | field _ x _ => obtain ⟨p, h1, e⟩ := e1_some e; simp only [e1, h1]; exact field_lay s e
  | indexAddr _ x y => obtain ⟨p, q, h1, h2, e⟩ := e2_some e; simp only [e2, h1, h2]; exact indexAddr_lay s e
  | index _ x y => obtain ⟨p, q, h1, h2, e⟩ := e2_some e; simp only [e2, h1, h2]; exact index_lay s e
  | typeAssert x _ _ _ => obtain ⟨p, h1, e⟩ := e1_some e; simp only [e1, h1]; exact assert_lay s e
  | extract x _ => obtain ⟨p, h1, e⟩ := e1_some e; simp only [e1, h1]; exact extract_lay s e
  | call c =>
    simp only at e ⊢
    split at e
    · rename_i args hargs
      try simp only [hargs]
      cases hc : c.callee with
      | builtin b =>
        simp only [hc] at e ⊢
        simp only [drawable, hc] at hdr
        exact builtin_lay s hid (by cases b <;> simp_all) e
      | value f =>
        simp only [hc] at e ⊢
        obtain ⟨p, h1, e⟩ := e1_some e
        simp only [e1, h1]
        unfold evCallV at e ⊢
        split at e
        · exact rlay_call e (invoke_call e)
        · cases e; exact True.intro
        · cases e
      | invoke rc nm =>
        simp only [hc] at e ⊢
        obtain ⟨p, h1, e⟩ := e1_some e
        simp only [e1, h1]
        exact rlay_call e (invoke_call e)
    · cases e
  | _ => cases e

/-! Quiet operations leave the heap. -/
theorem evalOp_quiet {t : T PV} {o : Oper} (hq : quiet o.op = true) (hdr : drawable o.op = true) {v : PV} {h1 : Hp} (e : evalOp P t h id o = some (.val v h1)) : h1 = h := by
  have vlq : ∀ {x : Option PV}, vl x h = some (.val v h1) → h1 = h := by
    intro x e; obtain ⟨y, _, e⟩ := vl_ok e; cases e; rfl
  unfold evalOp at e
  generalize hop : o.op = op at hdr hq e
  cases op with
  | lookup _ _ _ _ => cases hdr
  | mapUpdate _ _ _ _ => cases hdr
  | insert _ _ _ _ => cases hdr
  | defer _ => cases hdr
  | panic _ => cases hdr
  | buildSlice _ _ _ => cases hq
  | store _ _ _ => cases hq
  | alloc _ => cases hq
  | box _ _ => cases hq
  | makeMap _ _ => cases hq
  | makeSlice _ _ _ => cases hq
  | move x => exact vlq e
  | assign x => exact vlq e
  | pick c x y =>
    obtain ⟨p, q, u, _, _, _, e⟩ := e3_some e
    unfold evPick at e
    split at e <;> cases e <;> rfl
  | build ty ps =>
    simp only at e
    split at e
    · unfold evBuild at e
      simp only [Bool.cond_eq_ite] at e
      repeat' split at e
      all_goals first | (cases e; done) | (obtain ⟨cs, _, e⟩ := mapOpt e; cases e; rfl)
    · cases e
  | load _ x =>
    obtain ⟨p, _, e⟩ := e1_some e
    unfold evLoad at e
    repeat' split at e
    all_goals first | (cases e; done) | exact vlq e
  | nilCheck x =>
    obtain ⟨p, _, e⟩ := e1_some e
    unfold evNil at e
    split at e <;> first | (cases e; done) | (cases e; rfl)
  | binOp _ _ x y _ =>
    obtain ⟨p, q, _, _, e⟩ := e2_some e
    unfold evBin at e
    simp only [Bool.cond_eq_ite] at e
    repeat' split at e
    all_goals first | (cases e; done) | exact vlq e
  | unOp _ _ x => obtain ⟨p, _, e⟩ := e1_some e; exact vlq e
  | convert _ _ x =>
    obtain ⟨p, _, e⟩ := e1_some e
    unfold evConvert at e
    repeat' split at e
    all_goals first | (cases e; done) | (cases e; rfl)
  | makeInterface _ x =>
    obtain ⟨p, _, e⟩ := e1_some e
    unfold evIfc at e
    split at e <;> first | (cases e; done) | (cases e; rfl)
  | makeFunc f x y =>
    simp only at e
    split at e
    · unfold evMakeFunc at e
      split at e <;> first | (cases e; done) | (cases e; rfl)
    · cases e
  | slice ty x lo hi mx =>
    simp only [quiet] at hq
    have hmx : mx = none := by cases mx with
      | none => rfl
      | some _ => cases hq
    subst hmx
    simp only [evo] at e
    split at e
    · rename_i k3
      cases k3
      obtain ⟨p, _, e⟩ := e1_some e
      unfold evSlice at e
      simp only [Bool.cond_eq_ite] at e
      repeat' split at e
      all_goals first | (cases e; done) | (cases e; rfl) | (simp at *; done)
    · cases e
  | fieldAddr _ x _ =>
    obtain ⟨p, _, e⟩ := e1_some e
    unfold evFieldAddr at e
    simp only [Bool.cond_eq_ite] at e
    repeat' split at e
    all_goals first | (cases e; done) | (cases e; rfl)
  | field _ x _ =>
    obtain ⟨p, _, e⟩ := e1_some e
    unfold evField at e
    repeat' split at e
    all_goals first | (cases e; done) | exact vlq e
  | indexAddr _ x y =>
    obtain ⟨p, q, _, _, e⟩ := e2_some e
    unfold evIndexAddr at e
    simp only [Bool.cond_eq_ite] at e
    repeat' split at e
    all_goals first | (cases e; done) | (cases e; rfl)
  | index _ x y =>
    obtain ⟨p, q, _, _, e⟩ := e2_some e
    unfold evIndex at e
    simp only [Bool.cond_eq_ite] at e
    repeat' split at e
    all_goals first | (cases e; done) | exact vlq e | (cases e; rfl)
  | typeAssert x _ _ _ =>
    obtain ⟨p, _, e⟩ := e1_some e
    unfold evAssert at e
    simp only [Bool.cond_eq_ite] at e
    repeat' split at e
    all_goals first | (cases e; done) | (cases e; rfl)
  | extract x _ =>
    obtain ⟨p, _, e⟩ := e1_some e
    unfold evExtract at e
    split at e
    · exact vlq e
    · cases e
  | call c =>
    simp only [drawable] at hdr
    simp only [quiet] at hq
    simp only at e
    split at e
    · cases hc : c.callee with
      | builtin b =>
        simp only [hc] at e hdr hq
        have hb : b = .len ∨ b = .cap ∨ b = .max ∨ b = .min := by cases b <;> simp_all
        rcases hb with rfl | rfl | rfl | rfl <;> simp only [pbuiltin] at e <;> (repeat' split at e)
        all_goals first | (cases e; done) | (cases e; rfl) | (obtain ⟨cs, _, e⟩ := mapOpt e; cases e; rfl)
      | value f => simp only [hc] at hq; cases hq
      | invoke rc nm => simp only [hc] at hq; cases hq
    · cases e
  | _ => cases e
end
end Go.Proofs.YtfecnejgdafbcaaGreatDoor.Pi
