/- A part of the evaluator of the model's code and of its soundness, for any program. No condition. -/
import Derived.Test.YtfecnejgdafbcaaGreatDoorPiZF
namespace Go.Proofs.YtfecnejgdafbcaaGreatDoor.Pi
set_option linter.all false
variable [Gl]
section
variable {P : Program} {rec : Rec}

def InvT (n : Nat) (ops : Array Oper) (tr : Tr) (pre : List Nat) (t : T PV) : Prop :=
  ∀ k m, m ≤ n → (∀ j o, ops[j]? = some o → o.dst = some k → (j ∈ pre ↔ j < m)) → t.get k = (tr.ts m).get k
def InvH (n : Nat) (tr : Tr) (pre : List Nat) (h : Hp) : Prop :=
  ∀ x m, m ≤ n → (∀ j, j < n → x ∈ tr.wr j → (j ∈ pre ↔ j < m)) → h.get x = (tr.hp m).get x

/-- what one drawn operation does from any state that agrees with the text's on what it names -/
theorem drawnOp_any {t tS : T PV} {h hS h' : Hp} {id : Nat} {o : Oper} {v : PV} {rd wr : List Nat} (e : drawnOp P rec t h id o = some (v, h', rd, wr)) (ht : AgreeO t tS (opnds o.op)) (hh : ∀ x ∈ rd, hS.get x = h.get x) :
    ∃ hS', ((evalOp P tS hS id o = some (.val v hS')) ∨ (evalOp P tS hS id o = some (.skip hS') ∧ v = .tup []) ∨ ∃ f args, evalOp P tS hS id o = some (.call f args) ∧ doCall (fun _ => false) rec id f args hS = some (.ret v, hS')) ∧
      (∀ x, x ∉ wr → hS'.get x = hS.get x ∧ h'.get x = h.get x) ∧ (∀ x, x ∈ wr → x ∈ rd ∧ hS'.get x = h'.get x) := by
  unfold drawnOp at e
  simp only at e
  replace e := bifF e; obtain ⟨hc, e⟩ := e
  simp only [Bool.or_eq_false_iff, Bool.not_eq_false', Nat.blt_eq] at hc
  obtain ⟨hdr, hidlt⟩ := hc
  have sub : ∀ {l : List Nat}, (∀ x ∈ l, x ∈ rd) → Sub (h.cut l) hS := by
    intro l hl x b hx
    obtain ⟨h1, h2⟩ := cut_some hx
    rw [hh x (hl x h1)]; exact h2
  have hid : ∀ {l : List Nat}, id ∈ l → (∀ x ∈ l, x ∈ rd) → (h.cut l).get id = none → hS.get id = none := by
    intro l hin hl hx
    rw [cut_get, if_pos ⟨hin, hidlt⟩] at hx
    rw [hh id (hl id hin)]; exact hx
  have cutin : ∀ {l : List Nat} {x : Nat} {b : Blk}, (h.cut l).get x = some b → x ∈ l := fun hx => (cut_some hx).1
  -- the change, laid over
  have lay : ∀ {l wl : List Nat} {h1 hS' : Hp}, id ∈ l → (∀ x ∈ l, x ∈ rd) → Lay (h.cut l) hS h1 hS' id → over h1 l h = some h' → (∀ x ∈ wl, x ∈ l) → (∀ x ∈ l, x ∉ wl → ∃ b, h.get x = some b ∧ isFz b) → Stays (h.cut l) h1 ∨ (∀ x ∈ l, x ∈ wl) →
      (∀ x, x ∉ wl → hS'.get x = hS.get x ∧ h'.get x = h.get x) ∧ (∀ x, x ∈ wl → x ∈ rd ∧ hS'.get x = h'.get x) := by
    intro l wl h1 hS' hin hl la ho hwl hfz hst
    refine ⟨fun x hx => ?_, fun x hx => ?_⟩
    · by_cases hxl : x ∈ l
      · rcases hst with hst | hst
        · obtain ⟨b, hb, hbf⟩ := hfz x hxl hx
          have hx2 : x < x + 1 ∨ ¬ x < x + 1 := by omega
          rcases hx2 with hlt | hge
          · have h1b := hst x b (by rw [cut_get, if_pos ⟨hxl, hlt⟩]; exact hb) hbf
            refine ⟨by rw [la.get, h1b, hh x (hl x hxl), hb], by rw [over_get ho, if_pos hxl, h1b, hb]⟩
          · have hn : h1.get x = none := by
              cases hg : h1.get x with
              | none => rfl
              | some c =>
                rcases la.keys x c hg with ⟨b0, hb0⟩ | rfl
                · rw [cut_get, if_neg (fun h => hge h.2)] at hb0; cases hb0
                · exact absurd hidlt hge
            exact ⟨by rw [la.get, hn], by rw [over_get ho, if_pos hxl, hn]⟩
        · exact absurd (hst x hxl) hx
      · have hn : h1.get x = none := by
          cases hg : h1.get x with
          | none => rfl
          | some c =>
            rcases la.keys x c hg with ⟨b0, hb0⟩ | rfl
            · exact absurd (cutin hb0) hxl
            · exact absurd hin hxl
        exact ⟨by rw [la.get, hn], by rw [over_get ho, if_neg hxl]⟩
    · have hxl := hwl x hx
      refine ⟨hl x hxl, ?_⟩
      rw [la.get, over_get ho, if_pos hxl]
      cases h1.get x with
      | some b => rfl
      | none => exact hh x (hl x hxl)
  have same : ∀ {l : List Nat} {hS' : Hp}, (∀ x ∈ l, x ∈ rd) → Lay (h.cut l) hS (h.cut l) hS' id → h' = h → (∀ x, x ∉ ([] : List Nat) → hS'.get x = hS.get x ∧ h'.get x = h.get x) ∧ (∀ x, x ∈ ([] : List Nat) → x ∈ rd ∧ hS'.get x = h'.get x) := by
    intro l hS' hl la he
    refine ⟨fun x _ => ⟨?_, by rw [he]⟩, fun x hx => by simp at hx⟩
    rw [la.get]
    cases hg : (h.cut l).get x with
    | none => rfl
    | some b => exact (sub hl x b hg).symm
  split at e
  · rename_i v0 h1 hev
    rw [evalOp_agree hdr ht] at hev
    cases hq : quiet o.op with
    | true =>
      simp only [hq, cond_true, Option.some.injEq, Prod.mk.injEq] at e
      obtain ⟨rfl, rfl, rfl, rfl⟩ := e
      have h1eq := evalOp_quiet hq hdr hev
      subst h1eq
      have hl : ∀ x ∈ id :: foot t h o.op, x ∈ id :: foot t h o.op := fun x hx => hx
      obtain ⟨hS', e2, la⟩ := evalOp_lay (sub hl) (hid (by simp) hl) hdr hev
      exact ⟨hS', .inl e2, same hl la rfl⟩
    | false =>
      simp only [hq, cond_false] at e
      obtain ⟨h2, hov, e⟩ := mapOpt e
      simp only [Prod.mk.injEq] at e
      obtain ⟨rfl, rfl, rfl, rfl⟩ := e
      have hl : ∀ x ∈ id :: foot t h o.op, x ∈ id :: foot t h o.op := fun x hx => hx
      obtain ⟨hS', e2, la⟩ := evalOp_lay (sub hl) (hid (by simp) hl) hdr hev
      refine ⟨hS', .inl e2, ?_⟩
      cases ha : isApp o.op with
      | true => exact lay (by simp) hl la hov (fun x hx => hx) (fun x h1 h2 => absurd h1 h2) (.inr fun x hx => hx)
      | false => exact lay (by simp) hl la hov (fun x hx => unfrozen_sub hx) (fun x h1 h2 => unfrozen_not h1 h2) (.inl (evalOp_stays hdr ha hq hev _ (.inl ⟨_, rfl⟩)))
  · rename_i h1 hev
    rw [evalOp_agree hdr ht] at hev
    replace e := bifF e; obtain ⟨hqa, e⟩ := e
    simp only [Bool.or_eq_false_iff] at hqa
    obtain ⟨h2, hov, e⟩ := mapOpt e
    simp only [Prod.mk.injEq] at e
    obtain ⟨rfl, rfl, rfl, rfl⟩ := e
    have hl : ∀ x ∈ id :: foot t h o.op, x ∈ id :: foot t h o.op := fun x hx => hx
    obtain ⟨hS', e2, la⟩ := evalOp_lay (sub hl) (hid (by simp) hl) hdr hev
    have hst : Stays (h.cut (id :: foot t h o.op)) h1 := evalOp_stays hdr hqa.2 hqa.1 hev _ (.inr rfl)
    exact ⟨hS', .inr (.inl ⟨e2, rfl⟩), lay (by simp) hl la hov (fun x hx => unfrozen_sub hx) (fun x h1 h2 => unfrozen_not h1 h2) (.inl hst)⟩
  · rename_i f args hev
    rw [evalOp_agree hdr ht] at hev
    split at e
    · rename_i as l hp
      split at e
      · rename_i v0 h1 hcall
        have key : (∀ x ∈ id :: foot t h o.op, x ∈ rd) → ∀ (hl : ∀ x ∈ id :: l, x ∈ rd), ∃ hS', evalOp P tS hS id o = some (.call f args) ∧ doCall (fun _ => false) rec id f args hS = some (.ret v0, hS') ∧ Lay (h.cut (id :: l)) hS h1 hS' id ∧ (flat v0 = true → h1 = h.cut (id :: l)) ∧ Stays (h.cut (id :: l)) h1 := by
          intro hl0 hl
          have hev2 : evalOp P tS hS id o = some (.call f args) := evalOp_lay (sub hl0) (hid (by simp) hl0) hdr hev
          obtain ⟨⟨hS', e3, la⟩, k2, k3⟩ := call_lay (sub hl) (hid (by simp) hl) hcall
          exact ⟨hS', hev2, e3, la, k2, k3⟩
        cases hfl : flat v0 with
        | true =>
          simp only [hfl, cond_true, Option.some.injEq, Prod.mk.injEq] at e
          obtain ⟨rfl, rfl, rfl, rfl⟩ := e
          have hin : ∀ x ∈ id :: l, x ∈ (id :: foot t h o.op) ++ l := fun x hx => by
            simp only [List.mem_cons, List.mem_append] at hx ⊢
            rcases hx with rfl | hx
            · exact .inl (.inl rfl)
            · exact .inr hx
          obtain ⟨hS', e2, e3, la, k2, k3⟩ := key (fun x hx => List.mem_append_left _ hx) hin
          have := k2 hfl
          subst this
          exact ⟨hS', .inr (.inr ⟨f, args, e2, e3⟩), same hin la rfl⟩
        | false =>
          simp only [hfl, cond_false] at e
          obtain ⟨h2, hov, e⟩ := mapOpt e
          simp only [Prod.mk.injEq] at e
          obtain ⟨rfl, rfl, rfl, rfl⟩ := e
          have hin : ∀ x ∈ id :: l, x ∈ (id :: foot t h o.op) ++ l := fun x hx => by
            simp only [List.mem_cons, List.mem_append] at hx ⊢
            rcases hx with rfl | hx
            · exact .inl (.inl rfl)
            · exact .inr hx
          obtain ⟨hS', e2, e3, la, k2, k3⟩ := key (fun x hx => List.mem_append_left _ hx) hin
          exact ⟨hS', .inr (.inr ⟨f, args, e2, e3⟩), lay (by simp) hin la hov (fun x hx => unfrozen_sub hx) (fun x h1 h2 => unfrozen_not h1 h2) (.inl k3)⟩
      · cases e
    · cases e
  · cases e
end
end Go.Proofs.YtfecnejgdafbcaaGreatDoor.Pi
