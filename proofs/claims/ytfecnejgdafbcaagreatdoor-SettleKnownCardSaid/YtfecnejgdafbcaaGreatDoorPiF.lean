/- A part of the evaluator of the model's code and of its soundness, for any program. No condition. -/
import Derived.Test.YtfecnejgdafbcaaGreatDoorPiE
namespace Go.Proofs.YtfecnejgdafbcaaGreatDoor.Pi
set_option linter.all false
variable [Gl]
/-! Frozen data. -/
section
variable {P : Program} {M : Mem} {μ : Mu} {h : Hp} {w : World}
def FrzCell (r : Bk) (a : Addr) : Blk → Prop
  | .box _ _ => True
  | .row es _ _ => a.off < r.base + es.length * r.esz
  | _ => False
def InFrz (h : Hp) (μ : Mu) (L : List Nat) (a : Addr) : Prop := ∃ id ∈ L, ∃ r b, μ id = some r ∧ h.get id = some b ∧ a.block = r.b ∧ a.spot = none ∧ FrzCell r a b
def frzCell (r : Bk) (a : Addr) : Blk → Bool
  | .box _ _ => true
  | .row es _ _ => Nat.blt a.off (r.base + es.length * r.esz)
  | _ => false
def inFrz (h : Hp) (μ : Mu) (L : List Nat) (a : Addr) : Bool := L.any fun id => match μ id, h.get id with
  | some r, some b => Nat.beq a.block r.b && a.spot.isNone && frzCell r a b
  | _, _ => false
theorem frzCell_iff {r : Bk} {a : Addr} {b : Blk} : frzCell r a b = true ↔ FrzCell r a b := by
  cases b <;> simp [frzCell, FrzCell]
theorem inFrz_iff {h : Hp} {μ : Mu} {L : List Nat} {a : Addr} : inFrz h μ L a = true ↔ InFrz h μ L a := by
  unfold inFrz InFrz
  rw [List.any_eq_true]
  constructor
  · rintro ⟨id, hid, hx⟩
    split at hx
    · rename_i r b hr hb
      simp only [Bool.and_eq_true, Nat.beq_eq] at hx
      exact ⟨id, hid, r, b, hr, hb, hx.1.1, by simpa using hx.1.2, frzCell_iff.1 hx.2⟩
    · cases hx
  · rintro ⟨id, hid, r, b, hr, hb, h1, h2, h3⟩
    refine ⟨id, hid, ?_⟩
    simp only [hr, hb, Bool.and_eq_true, Nat.beq_eq]
    exact ⟨⟨h1, by rw [h2]; rfl⟩, frzCell_iff.2 h3⟩
def frz (M : Mem) (h : Hp) (μ : Mu) (w : World) (L : List Nat) : Mem := fun a => match M a with
  | some v => some v
  | none => if inFrz h μ L a then w.cell? a else none
theorem frz_le (L : List Nat) : MLe M (frz M h μ w L) := fun a v e => by simp [frz, e]
theorem frz_in (s : Sim M μ h w) {L : List Nat} {a : Addr} {v : Value} (hi : InFrz h μ L a) (hc : w.cell? a = some v) : frz M h μ w L a = some v := by
  unfold frz
  cases e : M a with
  | some x => have := (s.mem a x e).2; rw [hc] at this; simp [this]
  | none => simp [inFrz_iff.2 hi, hc]
theorem frz_inv {L : List Nat} {a : Addr} {v : Value} (e : frz M h μ w L a = some v) : M a = some v ∨ (InFrz h μ L a ∧ w.cell? a = some v) := by
  unfold frz at e
  cases hm : M a with
  | some x => rw [hm] at e; exact .inl e
  | none =>
    rw [hm] at e
    simp only at e
    split at e
    · rename_i hi; exact .inr ⟨inFrz_iff.1 hi, e⟩
    · cases e
theorem frz_mem (s : Sim M μ h w) {L : List Nat} {a : Addr} {v : Value} (e : frz M h μ w L a = some v) : a.spot = none ∧ w.cell? a = some v := by
  rcases frz_inv e with e | ⟨⟨_, _, _, _, _, _, _, hs, _⟩, hc⟩
  · exact s.mem a v e
  · exact ⟨hs, hc⟩

theorem mapPur_ok {f : PV → Option (PV × List Nat)} : ∀ {ps qs : List PV} {l : List Nat}, mapPur f ps = some (qs, l) →
    qs.length = ps.length ∧ ∀ (i : Nat) (p : PV), ps[i]? = some p → ∃ q l', f p = some (q, l') ∧ qs[i]? = some q ∧ ∀ x ∈ l', x ∈ l
  | [], qs, l, e => by
    simp [mapPur] at e; obtain ⟨rfl, rfl⟩ := e; exact ⟨rfl, fun i p hp => by simp at hp⟩
  | p :: ps, qs, l, e => by
    unfold mapPur at e
    split at e
    · rename_i q a qs' b h1 h2
      cases e
      obtain ⟨k1, k2⟩ := mapPur_ok h2
      refine ⟨by simp [k1], fun i x hx => ?_⟩
      cases i with
      | zero => simp at hx; subst hx; exact ⟨q, a, h1, rfl, fun y hy => List.mem_append_left _ hy⟩
      | succ i =>
        obtain ⟨q', l', h3, h4, h5⟩ := k2 i x (by simpa using hx)
        exact ⟨q', l', h3, by simpa using h4, fun y hy => List.mem_append_right _ (h5 y hy)⟩
    · cases e

theorem pur_cells {n : Nat} {p q : PV} {l : List Nat} (e : pur h n p = some (q, l)) :
    q.cells.length = p.cells.length ∧ ∀ (j : Nat) (c : PV), p.cells[j]? = some c → ∃ n' c' l', n' ≤ n ∧ pur h n' c = some (c', l') ∧ q.cells[j]? = some c' ∧ ∀ x ∈ l', x ∈ l := by
  have single : p.cells = [p] → q.cells = [q] → q.cells.length = p.cells.length ∧ ∀ (j : Nat) (c : PV), p.cells[j]? = some c → ∃ n' c' l', n' ≤ n ∧ pur h n' c = some (c', l') ∧ q.cells[j]? = some c' ∧ ∀ x ∈ l', x ∈ l := by
    intro h1 h2
    rw [h1, h2]
    refine ⟨rfl, fun j c hc => ?_⟩
    cases j with
    | zero => simp at hc; subst hc; exact ⟨n, q, l, Nat.le_refl _, e, rfl, fun _ h => h⟩
    | succ j => simp at hc
  cases n with
  | zero => simp [pur] at e
  | succ n =>
    cases p with
    | agg cs =>
      unfold pur at e
      cases hm : mapPur (pur h n) cs with
      | none => simp [hm] at e
      | some x =>
        obtain ⟨y, l0⟩ := x
        simp [hm] at e
        obtain ⟨rfl, rfl⟩ := e
        obtain ⟨k1, k2⟩ := mapPur_ok hm
        refine ⟨k1, fun j c hc => ?_⟩
        obtain ⟨q, l', h1, h2, h3⟩ := k2 j c hc
        exact ⟨n, q, l', by omega, h1, h2, h3⟩
    | tup cs =>
      unfold pur at e
      cases hm : mapPur (pur h n) cs with
      | none => simp [hm] at e
      | some x => simp [hm] at e; obtain ⟨rfl, rfl⟩ := e; exact ⟨rfl, fun j c hc => by simp [PV.cells] at hc⟩
    | bool | int | str | nilp | nils | nilm | nilf | nili | lst | view | gk | adr => unfold pur at e; simp at e; obtain ⟨rfl, rfl⟩ := e; exact single rfl rfl
    | yl | mp => simp [pur] at e
    | own id off len =>
      refine single rfl ?_
      unfold pur at e
      simp only at e
      split at e
      · rename_i es ex fz hb
        cases hc : Nat.ble (off + len) es.length with
        | false => simp [hc] at e
        | true => simp [hc] at e; obtain ⟨a, b, _, rfl, _⟩ := e; rfl
      · cases e
    | ptr id off =>
      refine single rfl ?_
      unfold pur at e
      simp only at e
      split at e
      · rename_i cs fz hb
        cases hc : Nat.blt off cs.length with
        | false => simp [hc] at e
        | true => simp [hc] at e; obtain ⟨a, b, _, rfl, _⟩ := e; rfl
      · cases e
    | ept id i off =>
      refine single rfl ?_
      unfold pur at e
      simp only at e
      split at e
      · split at e
        · rename_i el hel
          cases hc : Nat.blt off el.cells.length with
          | false => simp [hc] at e
          | true => simp [hc] at e; obtain ⟨a, b, _, rfl, _⟩ := e; rfl
        · cases e
      · cases e
    | fn f a b =>
      refine single rfl ?_
      unfold pur at e
      simp only at e
      split at e
      · cases e; rfl
      · cases e
    | ifc t x =>
      refine single rfl ?_
      unfold pur at e
      cases hm : pur h n x with
      | none => simp [hm] at e
      | some y => simp [hm] at e; obtain ⟨rfl, _⟩ := e; rfl

theorem pur_ok (s : Sim M μ h w) (L : List Nat) : ∀ (n : Nat) (p q : PV) (l : List Nat) (v : Value), pur h n p = some (q, l) → Rep M μ p v → (∀ x ∈ l, x ∈ L) → Rep (frz M h μ w L) mu0 q v := by
  intro n
  induction n using Nat.strongRecOn with
  | ind n ih =>
    intro p q l v e hx hL
    cases n with
    | zero => simp [pur] at e
    | succ n =>
      have many : ∀ {cs qs : List PV} {l0 : List Nat} {vs : Array Value}, mapPur (pur h n) cs = some (qs, l0) → (∀ x ∈ l0, x ∈ L) → cs.length = vs.size →
          (∀ (i : Nat) (c : PV) (v : Value), cs[i]? = some c → vs[i]? = some v → Rep M μ c v) →
          qs.length = vs.size ∧ ∀ (i : Nat) (c : PV) (v : Value), qs[i]? = some c → vs[i]? = some v → Rep (frz M h μ w L) mu0 c v := by
        intro cs qs l0 vs hm hl0 hlen hr
        obtain ⟨k1, k2⟩ := mapPur_ok hm
        refine ⟨k1.trans hlen, fun i c y hc hy => ?_⟩
        have hi : i < cs.length := by rw [← k1]; exact (List.getElem?_eq_some_iff.1 hc).1
        obtain ⟨q', l', h1, h2, h3⟩ := k2 i cs[i] (List.getElem?_eq_getElem hi)
        rw [hc] at h2; cases h2
        exact ih n (by omega) _ _ l' y h1 (hr i _ y (List.getElem?_eq_getElem hi) hy) fun x hx => hl0 x (h3 x hx)
      cases p with
      | agg cs =>
        unfold pur at e
        cases hm : mapPur (pur h n) cs with
        | none => simp [hm] at e
        | some x =>
          obtain ⟨y, l0⟩ := x
          simp [hm] at e
          obtain ⟨rfl, rfl⟩ := e
          cases hx with
          | agg _ _ vs hl h1 hr => obtain ⟨a, b⟩ := many hm hL hl hr; exact .agg _ _ _ a h1 b
      | tup cs =>
        unfold pur at e
        cases hm : mapPur (pur h n) cs with
        | none => simp [hm] at e
        | some x =>
          obtain ⟨y, l0⟩ := x
          simp [hm] at e
          obtain ⟨rfl, rfl⟩ := e
          cases hx with
          | tup _ _ vs hl hr => obtain ⟨a, b⟩ := many hm hL hl hr; exact .tup _ _ _ a b
      | bool | int | str | nilp | nils | nilm | nilf | nili => unfold pur at e; simp at e; obtain ⟨rfl, rfl⟩ := e; cases hx; constructor
      | lst full es =>
        unfold pur at e; simp at e; obtain ⟨rfl, rfl⟩ := e
        cases hx with
        | lst0 _ _ a cap hf => exact .lst0 _ _ _ _ hf
        | lst _ _ _ b off esz cap x hf hc hs hm h1 hr => exact .lst _ _ _ _ _ esz _ x hf hc hs (fun i e j c a k => frz_le L _ _ (hm i e j c a k)) h1 fun i e j c a k => (hr i e j c a k).mono (frz_le L) (.refl _)
      | view cs =>
        unfold pur at e; simp at e; obtain ⟨rfl, rfl⟩ := e
        cases hx with
        | view _ _ b off x hm h1 hr => exact .view _ _ _ _ x (fun j c a => frz_le L _ _ (hm j c a)) h1 fun j c a => (hr j c a).mono (frz_le L) (.refl _)
      | gk n =>
        unfold pur at e; simp at e; obtain ⟨rfl, rfl⟩ := e
        cases hx with
        | gk _ _ t a hm => exact .gk _ _ t a (frz_le L _ _ hm)
      | adr b off => unfold pur at e; simp at e; obtain ⟨rfl, rfl⟩ := e; cases hx; constructor
      | yl | mp => simp [pur] at e
      | own id off len =>
        unfold pur at e
        simp only at e
        split at e
        · rename_i es ex fz hb
          cases hc : Nat.ble (off + len) es.length with
          | false => simp [hc] at e
          | true =>
            simp [hc] at e
            obtain ⟨qs, l0, hm, rfl, rfl⟩ := e
            have hle : off + len ≤ es.length := Nat.le_of_ble_eq_true hc
            cases hx with
            | own _ _ _ _ r hr hcap =>
              obtain ⟨r', hr', arr, ety, h1, h2, h3, h4, h5, h6, h7⟩ := s.blk id _ hb
              rw [hr] at hr'; cases hr'
              obtain ⟨k1, k2⟩ := mapPur_ok hm
              have hqlen : qs.length = len := by rw [k1]; simp; omega
              have elem : ∀ (i : Nat) (qe : PV), qs[i]? = some qe → ∃ el l', es[off + i]? = some el ∧ pur h n el = some (qe, l') ∧ (∀ x ∈ l', x ∈ l0) := by
                intro i qe hqe
                have hi : i < len := by rw [← hqlen]; exact (List.getElem?_eq_some_iff.1 hqe).1
                have hes : ((es.drop off).take len)[i]? = some es[off + i] := by
                  rw [List.getElem?_take, if_pos hi, List.getElem?_drop]; exact List.getElem?_eq_getElem (by omega)
                obtain ⟨q', l', a1, a2, a3⟩ := k2 i _ hes
                rw [hqe] at a2; cases a2
                exact ⟨_, l', List.getElem?_eq_getElem (by omega), a1, a3⟩
              rw [← hqlen]
              refine .lst _ _ _ _ _ r.esz _ (fun i j => (arr[r.base + (off + i) * r.esz + j]?).getD undef) (by intro h; cases h) (by omega) ?_ ?_ ?_ ?_
              · intro i qe hqe
                obtain ⟨el, l', a1, a2, _⟩ := elem i qe hqe
                rw [(pur_cells a2).1]; exact h6 _ _ a1
              all_goals
                intro i qe j c hqe hcj
                obtain ⟨el, l', a1, a2, a3⟩ := elem i qe hqe
                have hcl := pur_cells a2
                have hj : j < el.cells.length := by rw [← hcl.1]; exact (List.getElem?_eq_some_iff.1 hcj).1
                have hlt : r.base + (off + i) * r.esz + j < arr.size := row_in h3 h2 a1 (h6 _ _ a1) hj
                obtain ⟨n', c', l'', b1, b2, b3, b4⟩ := hcl.2 j _ (List.getElem?_eq_getElem hj)
                rw [hcj] at b3; cases b3
                have hv := h7 (off + i) el j _ _ a1 (List.getElem?_eq_getElem hj) (Array.getElem?_eq_getElem hlt)
                simp only [Array.getElem?_eq_getElem hlt, Option.getD_some]
              · have e1 : r.base + off * r.esz + i * r.esz + j = r.base + (off + i) * r.esz + j := by rw [Nat.add_mul]; omega
                rw [e1]
                refine frz_in s ⟨id, hL id (by simp), r, _, hr, hb, rfl, rfl, ?_⟩ (by rw [cell?_eq (a := ⟨r.b, r.base + (off + i) * r.esz + j, none⟩) h1 rfl]; exact Array.getElem?_eq_getElem hlt)
                have := row_in (i := off + i) (es := es) (r := { r with cap := es.length }) (n := r.base + es.length * r.esz) (Nat.le_refl _) (Nat.le_refl _) a1 (h6 _ _ a1) hj
                exact this
              · exact hv.1
              · exact ih n' (by omega) _ _ l'' _ b2 hv.2 fun x hx => hL x (by simp [a3 x (b4 x hx)])
        · cases e
      | ptr id off =>
        unfold pur at e
        simp only at e
        split at e
        · rename_i cs fz hb
          cases hc : Nat.blt off cs.length with
          | false => simp [hc] at e
          | true =>
            simp [hc] at e
            obtain ⟨qs, l0, hm, rfl, rfl⟩ := e
            cases hx with
            | ptr _ _ _ r hr =>
              obtain ⟨r', hr', h0, arr, ety, h1, h2, h3, h4⟩ := s.blk id _ hb
              rw [hr] at hr'; cases hr'
              obtain ⟨k1, k2⟩ := mapPur_ok hm
              refine .view _ _ _ _ (fun j => (arr[off + j]?).getD undef) ?_ ?_ ?_
              all_goals
                intro j c hcj
                have hj : j < (cs.drop off).length := by rw [← k1]; exact (List.getElem?_eq_some_iff.1 hcj).1
                have hj' : off + j < cs.length := by simp at hj; omega
                obtain ⟨c', l', b1, b2, b3⟩ := k2 j _ (List.getElem?_eq_getElem hj)
                rw [hcj] at b2; cases b2
                have hlt : off + j < arr.size := by omega
                simp only [Array.getElem?_eq_getElem hlt, Option.getD_some]
              · refine frz_in s ⟨id, hL id (by simp), r, _, hr, hb, rfl, rfl, trivial⟩ ?_
                rw [cell?_eq (a := ⟨r.b, r.base + off + j, none⟩) h1 rfl, h0, Nat.zero_add]; exact Array.getElem?_eq_getElem hlt
              · exact h3 _ _ (Array.getElem?_eq_getElem hlt)
              · refine ih n (by omega) _ _ l' _ b1 (h4 (off + j) _ _ ?_ (Array.getElem?_eq_getElem hlt)) fun x hx => hL x (by simp [b3 x hx])
                rw [List.getElem_drop]; exact List.getElem?_eq_getElem hj'
        · cases e
      | ept id i off =>
        unfold pur at e
        simp only at e
        split at e
        · rename_i es ex fz hb
          split at e
          · rename_i el hel
            rw [lget_eq] at hel
            cases hc : Nat.blt off el.cells.length with
            | false => simp [hc] at e
            | true =>
              simp [hc] at e
              obtain ⟨qs, l0, hm, rfl, rfl⟩ := e
              cases hx with
              | ept _ _ _ _ r hr =>
                obtain ⟨r', hr', arr, ety, h1, h2, h3, h4, h5, h6, h7⟩ := s.blk id _ hb
                rw [hr] at hr'; cases hr'
                obtain ⟨k1, k2⟩ := mapPur_ok hm
                refine .view _ _ _ _ (fun j => (arr[r.base + i * r.esz + (off + j)]?).getD undef) ?_ ?_ ?_
                all_goals
                  intro j c hcj
                  have hj : j < (el.cells.drop off).length := by rw [← k1]; exact (List.getElem?_eq_some_iff.1 hcj).1
                  have hj' : off + j < el.cells.length := by simp at hj; omega
                  obtain ⟨c', l', b1, b2, b3⟩ := k2 j _ (List.getElem?_eq_getElem hj)
                  rw [hcj] at b2; cases b2
                  have hlt : r.base + i * r.esz + (off + j) < arr.size := row_in h3 h2 hel (h6 _ _ hel) hj'
                  have hv := h7 i el (off + j) _ _ hel (List.getElem?_eq_getElem hj') (Array.getElem?_eq_getElem hlt)
                  simp only [Array.getElem?_eq_getElem hlt, Option.getD_some]
                · have e1 : r.base + i * r.esz + off + j = r.base + i * r.esz + (off + j) := by omega
                  rw [e1]
                  refine frz_in s ⟨id, hL id (by simp), r, _, hr, hb, rfl, rfl, ?_⟩ (by rw [cell?_eq (a := ⟨r.b, r.base + i * r.esz + (off + j), none⟩) h1 rfl]; exact Array.getElem?_eq_getElem hlt)
                  exact row_in (i := i) (es := es) (r := { r with cap := es.length }) (n := r.base + es.length * r.esz) (Nat.le_refl _) (Nat.le_refl _) hel (h6 _ _ hel) hj'
                · exact hv.1
                · refine ih n (by omega) _ _ l' _ b1 ?_ fun x hx => hL x (by simp [b3 x hx])
                  rw [List.getElem_drop]; exact hv.2
          · cases e
        · cases e
      | fn f a b =>
        unfold pur at e
        simp only at e
        split at e
        · rename_i qa la qb lb ha hb
          cases e
          cases hx with
          | fn _ _ _ _ va vb hf hla hlb hra hrb =>
            obtain ⟨a1, a2⟩ := many ha (fun x hx => hL x (List.mem_append_left _ hx)) hla hra
            obtain ⟨b1, b2⟩ := many hb (fun x hx => hL x (List.mem_append_right _ hx)) hlb hrb
            exact .fn _ _ _ _ _ _ hf a1 b1 a2 b2
        · cases e
      | ifc t x =>
        unfold pur at e
        cases hm : pur h n x with
        | none => simp [hm] at e
        | some y =>
          obtain ⟨y, l0⟩ := y
          simp [hm] at e
          obtain ⟨rfl, rfl⟩ := e
          cases hx with
          | ifc _ _ _ v hr => exact .ifc _ _ _ _ (ih n (by omega) _ _ l0 _ hm hr hL)
theorem purl_ok (s : Sim M μ h w) (L : List Nat) : ∀ {ps qs : List PV} {l : List Nat} {vs : List Value}, purl h ps = some (qs, l) → RepL M μ ps vs → (∀ x ∈ l, x ∈ L) → RepL (frz M h μ w L) mu0 qs vs
  | [], qs, l, vs, e, hr, _ => by simp [purl] at e; obtain ⟨rfl, rfl⟩ := e; rw [hr.nil_inv]; exact RepL.nil _ _
  | p :: ps, qs, l, vs, e, hr, hL => by
    unfold purl at e
    split at e
    · rename_i q a qs' b h1 h2
      cases e
      obtain ⟨v, ws, rfl, r1, r2⟩ := hr.cons_inv
      exact RepL.cons (pur_ok s L _ _ _ _ _ h1 r1 fun x hx => hL x (List.mem_append_left _ hx)) (purl_ok s L h2 r2 fun x hx => hL x (List.mem_append_right _ hx))
    · cases e

theorem freeze1 (s : Sim M μ h w) {id : Nat} {b b' : Blk} {h' : Hp} (hb : h.get id = some b) (hs : h.set id b' = some h')
    (hk : (∃ cs fz, b = .box cs fz ∧ b' = .box cs true) ∨ ∃ es ex fz, b = .row es ex fz ∧ b' = .row es ex true) : Sim (frz M h μ w [id]) μ h' w := by
  obtain ⟨r, hr, hat⟩ := s.blk id b hb
  have hget := (Hp.get_set hs).1
  have hle := frz_le (M := M) (h := h) (μ := μ) (w := w) [id]
  have hlive : b.live := by rcases hk with ⟨_, _, rfl, _⟩ | ⟨_, _, _, rfl, _⟩ <;> trivial
  constructor
  · exact s.glb.mono hle
  · intro a v e; exact frz_mem s e
  · intro k bk hkk
    rw [hget] at hkk
    by_cases ek : k = id
    · rw [if_pos ek] at hkk; cases hkk; subst ek
      refine ⟨r, hr, BlkAt.mono hle (.refl _) ?_⟩
      rcases hk with ⟨_, _, rfl, rfl⟩ | ⟨_, _, _, rfl, rfl⟩ <;> exact hat
    · rw [if_neg ek] at hkk
      obtain ⟨rk, hrk, hatk⟩ := s.blk k bk hkk
      exact ⟨rk, hrk, hatk.mono hle (.refl _)⟩
  · intro k rk hkr
    have := s.use k rk hkr
    refine ⟨?_, this.2⟩
    rw [hget]; split <;> simp_all
  · intro k k' rk rk' bk bk' a1 a2 a3 a4 a5 a6 a7
    rw [hget] at a3 a4
    by_cases e : k = id
    · by_cases e' : k' = id
      · exact e.trans e'.symm
      · rw [if_neg e'] at a4; subst e; exact s.inj _ _ rk rk' b bk' a1 a2 hb a4 hlive a6 a7
    · rw [if_neg e] at a3
      by_cases e' : k' = id
      · subst e'; exact s.inj _ _ rk rk' bk b a1 a2 a3 hb a5 hlive a7
      · rw [if_neg e'] at a4; exact s.inj _ _ rk rk' bk bk' a1 a2 a3 a4 a5 a6 a7
  · intro k rk bk a v a1 a2 a3 a4 a5
    rw [hget] at a1
    by_cases e : k = id
    · subst e
      rw [if_pos rfl] at a1; cases a1
      rw [hr] at a2; cases a2
      rcases frz_inv a4 with a4 | ⟨⟨id0, hid, r0, b0, hr0, hb0, hab, _, hfc⟩, _⟩
      · have := s.sep k r b a v hb hr hlive a4 a5
        rcases hk with ⟨_, _, rfl, rfl⟩ | ⟨_, _, _, rfl, rfl⟩
        · rfl
        · exact ⟨rfl, this.2⟩
      · simp at hid; subst hid
        rw [hr] at hr0; cases hr0
        rw [hb] at hb0; cases hb0
        rcases hk with ⟨_, _, rfl, rfl⟩ | ⟨_, _, _, rfl, rfl⟩
        · rfl
        · exact ⟨rfl, hfc⟩
    · rw [if_neg e] at a1
      rcases frz_inv a4 with a4 | ⟨⟨id0, hid, r0, b0, hr0, hb0, hab, _, hfc⟩, _⟩
      · exact s.sep k rk bk a v a1 a2 a3 a4 a5
      · simp at hid; subst hid
        exact absurd (s.inj k id0 rk r0 bk b0 a2 hr0 a1 hb0 a3 (by cases b0 <;> first | trivial | exact hfc.elim) (a5.symm.trans hab)) e
theorem freeze_ok : ∀ (L : List Nat) {M : Mem} {h h' : Hp}, Sim M μ h w → freeze h L = some h' → ∃ M', MLe (frz M h μ w L) M' ∧ Sim M' μ h' w ∧ (∀ a v, M' a = some v → M a = some v ∨ ∃ id r, μ id = some r ∧ r.b = a.block) ∧ h'.nx = h.nx
  | [], M, h, h', s, e => by
    simp [freeze] at e; subst e
    refine ⟨M, fun a v hv => ?_, s, fun a v hv => .inl hv, rfl⟩
    rcases frz_inv hv with hv | ⟨⟨_, hm, _⟩, _⟩
    · exact hv
    · simp at hm
  | id :: L, M, h, h', s, e => by
    have key : ∀ (b b' : Blk) (h1 : Hp), h.get id = some b → h.set id b' = some h1 → ((∃ cs fz, b = .box cs fz ∧ b' = .box cs true) ∨ ∃ es ex fz, b = .row es ex fz ∧ b' = .row es ex true) → freeze h1 L = some h' →
        ∃ M', MLe (frz M h μ w (id :: L)) M' ∧ Sim M' μ h' w ∧ (∀ a v, M' a = some v → M a = some v ∨ ∃ id r, μ id = some r ∧ r.b = a.block) ∧ h'.nx = h.nx := by
      intro b b' h1 hb hs hk hf
      have s1 := freeze1 s hb hs hk
      obtain ⟨M', m1, m2, m3, m4⟩ := freeze_ok L s1 hf
      have hget := (Hp.get_set hs).1
      refine ⟨M', fun a v hv => m1 a v ?_, m2, fun a v hv => ?_, m4.trans (Hp.get_set hs).2⟩
      · rcases frz_inv hv with hv | ⟨⟨id0, hm, r0, b0, hr0, hb0, hab, hsp, hfc⟩, hc⟩
        · exact frz_le L _ _ (frz_le [id] _ _ hv)
        · rcases List.mem_cons.1 hm with rfl | hm
          · exact frz_le L _ _ (frz_in s ⟨id0, by simp, r0, b0, hr0, hb0, hab, hsp, hfc⟩ hc)
          · refine frz_in s1 ⟨id0, hm, r0, ?_⟩ hc
            by_cases e0 : id0 = id
            · subst e0
              rw [hb] at hb0; cases hb0
              refine ⟨b', hr0, by rw [hget, if_pos rfl], hab, hsp, ?_⟩
              rcases hk with ⟨_, _, rfl, rfl⟩ | ⟨_, _, _, rfl, rfl⟩ <;> exact hfc
            · exact ⟨b0, hr0, by rw [hget, if_neg e0]; exact hb0, hab, hsp, hfc⟩
      · rcases m3 a v hv with hv | hv
        · rcases frz_inv hv with hv | ⟨⟨id0, _, r0, b0, hr0, _, hab, _⟩, _⟩
          · exact .inl hv
          · exact .inr ⟨id0, r0, hr0, hab.symm⟩
        · exact .inr hv
    unfold freeze at e
    split at e
    · rename_i cs fz hb
      split at e
      · rename_i h1 hs; exact key _ _ h1 hb hs (.inl ⟨cs, fz, rfl, rfl⟩) e
      · cases e
    · rename_i es ex fz hb
      split at e
      · rename_i h1 hs; exact key _ _ h1 hb hs (.inr ⟨es, ex, fz, rfl, rfl⟩) e
      · cases e
    · cases e
theorem freeze_grow {L : List Nat} {M' : Mem} (hM : MLe (frz M h μ w L) M') (hM' : ∀ a v, M' a = some v → M a = some v ∨ ∃ id r, μ id = some r ∧ r.b = a.block) : Grow M μ w M' μ w :=
  ⟨(frz_le L).trans hM, .refl _, fun a v hv => (hM' a v hv).imp id .inl, fun id r h => .inl ⟨id, r, h, rfl⟩, Nat.le_refl _, fun _ _ _ => rfl, rfl, rfl, rfl, fun _ arr _ _ h => .inr ⟨arr, h⟩⟩
end
end Go.Proofs.YtfecnejgdafbcaaGreatDoor.Pi
