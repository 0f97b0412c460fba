/- A part of the evaluator of the model's code for any program, and of the proof that it is sound. No condition. -/
import Derived.Test.YtopoaknleakdcaaGreatPp0
namespace Go.Proofs.YtopoaknleakdcaaGreat.Pi
/-! Frozen data. -/
section
variable {P : Program} {M : Mem} {μ : Mu} {h : Hp} {w : World}
def FrzCell (r : Bk) (a : Addr) : Blk → Prop
  | .box _ _ => True
  | .row es _ _ => a.off < r.base + es.length * r.esz
  | _ => False
def InFrz (h : Hp) (μ : Mu) (L : List Nat) (a : Addr) : Prop := ∃ id ∈ L, ∃ r b, μ id = some r ∧ h.get id = some b ∧ a.block = r.b ∧ a.spot = none ∧ FrzCell r a b
def frzCell (r : Bk) (a : Addr) : Blk → Bool
  | .box _ _ => true
  | .row es _ _ => Nat.blt a.off (r.base + es.length * r.esz)
  | _ => false
def inFrz (h : Hp) (μ : Mu) (L : List Nat) (a : Addr) : Bool := L.any fun id => match μ id, h.get id with
  | some r, some b => Nat.beq a.block r.b && a.spot.isNone && frzCell r a b
  | _, _ => false
theorem frzCell_iff {r : Bk} {a : Addr} {b : Blk} : frzCell r a b = true ↔ FrzCell r a b := by
  cases b <;> simp [frzCell, FrzCell]
theorem inFrz_iff {h : Hp} {μ : Mu} {L : List Nat} {a : Addr} : inFrz h μ L a = true ↔ InFrz h μ L a := by
  unfold inFrz InFrz
  rw [List.any_eq_true]
  constructor
  · rintro ⟨id, hid, hx⟩
    split at hx
    · rename_i r b hr hb
      simp only [Bool.and_eq_true, Nat.beq_eq] at hx
      exact ⟨id, hid, r, b, hr, hb, hx.1.1, by simpa using hx.1.2, frzCell_iff.1 hx.2⟩
    · cases hx
  · rintro ⟨id, hid, r, b, hr, hb, h1, h2, h3⟩
    refine ⟨id, hid, ?_⟩
    simp only [hr, hb, Bool.and_eq_true, Nat.beq_eq]
    exact ⟨⟨h1, by rw [h2]; rfl⟩, frzCell_iff.2 h3⟩
def frz (M : Mem) (h : Hp) (μ : Mu) (w : World) (L : List Nat) : Mem := fun a => match M a with
  | some v => some v
  | none => if inFrz h μ L a then w.cell? a else none
theorem frz_le (L : List Nat) : MLe M (frz M h μ w L) := fun a v e => by simp [frz, e]
theorem frz_in (s : Sim M μ h w) {L : List Nat} {a : Addr} {v : Value} (hi : InFrz h μ L a) (hc : w.cell? a = some v) : frz M h μ w L a = some v := by
  unfold frz
  cases e : M a with
  | some x => have := (s.mem a x e).2; rw [hc] at this; simp [this]
  | none => simp [inFrz_iff.2 hi, hc]
theorem frz_inv {L : List Nat} {a : Addr} {v : Value} (e : frz M h μ w L a = some v) : M a = some v ∨ (InFrz h μ L a ∧ w.cell? a = some v) := by
  unfold frz at e
  cases hm : M a with
  | some x => rw [hm] at e; exact .inl e
  | none =>
    rw [hm] at e
    simp only at e
    split at e
    · rename_i hi; exact .inr ⟨inFrz_iff.1 hi, e⟩
    · cases e
theorem frz_mem (s : Sim M μ h w) {L : List Nat} {a : Addr} {v : Value} (e : frz M h μ w L a = some v) : a.spot = none ∧ w.cell? a = some v := by
  rcases frz_inv e with e | ⟨⟨_, _, _, _, _, _, _, hs, _⟩, hc⟩
  · exact s.mem a v e
  · exact ⟨hs, hc⟩

theorem mapPur_ok {f : PV → Option (PV × List Nat)} : ∀ {ps qs : List PV} {l : List Nat}, mapPur f ps = some (qs, l) →
    qs.length = ps.length ∧ ∀ (i : Nat) (p : PV), ps[i]? = some p → ∃ q l', f p = some (q, l') ∧ qs[i]? = some q ∧ ∀ x ∈ l', x ∈ l
  | [], qs, l, e => by
    simp [mapPur] at e; obtain ⟨rfl, rfl⟩ := e; exact ⟨rfl, fun i p hp => by simp at hp⟩
  | p :: ps, qs, l, e => by
    unfold mapPur at e
    split at e
    · rename_i q a qs' b h1 h2
      cases e
      obtain ⟨k1, k2⟩ := mapPur_ok h2
      refine ⟨by simp [k1], fun i x hx => ?_⟩
      cases i with
      | zero => simp at hx; subst hx; exact ⟨q, a, h1, rfl, fun y hy => List.mem_append_left _ hy⟩
      | succ i =>
        obtain ⟨q', l', h3, h4, h5⟩ := k2 i x (by simpa using hx)
        exact ⟨q', l', h3, by simpa using h4, fun y hy => List.mem_append_right _ (h5 y hy)⟩
    · cases e

theorem pur_cells {n : Nat} {p q : PV} {l : List Nat} (e : pur h n p = some (q, l)) :
    q.cells.length = p.cells.length ∧ ∀ (j : Nat) (c : PV), p.cells[j]? = some c → ∃ n' c' l', n' ≤ n ∧ pur h n' c = some (c', l') ∧ q.cells[j]? = some c' ∧ ∀ x ∈ l', x ∈ l := by
  have single : p.cells = [p] → q.cells = [q] → q.cells.length = p.cells.length ∧ ∀ (j : Nat) (c : PV), p.cells[j]? = some c → ∃ n' c' l', n' ≤ n ∧ pur h n' c = some (c', l') ∧ q.cells[j]? = some c' ∧ ∀ x ∈ l', x ∈ l := by
    intro h1 h2
    rw [h1, h2]
    refine ⟨rfl, fun j c hc => ?_⟩
    cases j with
    | zero => simp at hc; subst hc; exact ⟨n, q, l, Nat.le_refl _, e, rfl, fun _ h => h⟩
    | succ j => simp at hc
  cases n with
  | zero => simp [pur] at e
  | succ n =>
    cases p with
    | agg cs =>
      unfold pur at e
      cases hm : mapPur (pur h n) cs with
      | none => simp [hm] at e
      | some x =>
        obtain ⟨y, l0⟩ := x
        simp [hm] at e
        obtain ⟨rfl, rfl⟩ := e
        obtain ⟨k1, k2⟩ := mapPur_ok hm
        refine ⟨k1, fun j c hc => ?_⟩
        obtain ⟨q, l', h1, h2, h3⟩ := k2 j c hc
        exact ⟨n, q, l', by omega, h1, h2, h3⟩
    | tup cs =>
      unfold pur at e
      cases hm : mapPur (pur h n) cs with
      | none => simp [hm] at e
      | some x => simp [hm] at e; obtain ⟨rfl, rfl⟩ := e; exact ⟨rfl, fun j c hc => by simp [PV.cells] at hc⟩
    | bool | int | str | nilp | nils | nilm | nilf | nili | lst | view => unfold pur at e; simp at e; obtain ⟨rfl, rfl⟩ := e; exact single rfl rfl
    | yl | mp => simp [pur] at e
    | own id off len =>
      refine single rfl ?_
      unfold pur at e
      simp only at e
      split at e
      · rename_i es ex fz hb
        cases hc : Nat.ble (off + len) es.length with
        | false => simp [hc] at e
        | true => simp [hc] at e; obtain ⟨a, b, _, rfl, _⟩ := e; rfl
      · cases e
    | ptr id off =>
      refine single rfl ?_
      unfold pur at e
      simp only at e
      split at e
      · rename_i cs fz hb
        cases hc : Nat.blt off cs.length with
        | false => simp [hc] at e
        | true => simp [hc] at e; obtain ⟨a, b, _, rfl, _⟩ := e; rfl
      · cases e
    | ept id i off =>
      refine single rfl ?_
      unfold pur at e
      simp only at e
      split at e
      · split at e
        · rename_i el hel
          cases hc : Nat.blt off el.cells.length with
          | false => simp [hc] at e
          | true => simp [hc] at e; obtain ⟨a, b, _, rfl, _⟩ := e; rfl
        · cases e
      · cases e
    | fn f a b =>
      refine single rfl ?_
      unfold pur at e
      simp only at e
      split at e
      · cases e; rfl
      · cases e
    | ifc t x =>
      refine single rfl ?_
      unfold pur at e
      cases hm : pur h n x with
      | none => simp [hm] at e
      | some y => simp [hm] at e; obtain ⟨rfl, _⟩ := e; rfl

theorem pur_ok (s : Sim M μ h w) (L : List Nat) : ∀ (n : Nat) (p q : PV) (l : List Nat) (v : Value), pur h n p = some (q, l) → Rep M μ p v → (∀ x ∈ l, x ∈ L) → Rep (frz M h μ w L) mu0 q v := by
  intro n
  induction n using Nat.strongRecOn with
  | ind n ih =>
    intro p q l v e hx hL
    cases n with
    | zero => simp [pur] at e
    | succ n =>
      have many : ∀ {cs qs : List PV} {l0 : List Nat} {vs : Array Value}, mapPur (pur h n) cs = some (qs, l0) → (∀ x ∈ l0, x ∈ L) → cs.length = vs.size →
          (∀ (i : Nat) (c : PV) (v : Value), cs[i]? = some c → vs[i]? = some v → Rep M μ c v) →
          qs.length = vs.size ∧ ∀ (i : Nat) (c : PV) (v : Value), qs[i]? = some c → vs[i]? = some v → Rep (frz M h μ w L) mu0 c v := by
        intro cs qs l0 vs hm hl0 hlen hr
        obtain ⟨k1, k2⟩ := mapPur_ok hm
        refine ⟨k1.trans hlen, fun i c y hc hy => ?_⟩
        have hi : i < cs.length := by rw [← k1]; exact (List.getElem?_eq_some_iff.1 hc).1
        obtain ⟨q', l', h1, h2, h3⟩ := k2 i cs[i] (List.getElem?_eq_getElem hi)
        rw [hc] at h2; cases h2
        exact ih n (by omega) _ _ l' y h1 (hr i _ y (List.getElem?_eq_getElem hi) hy) fun x hx => hl0 x (h3 x hx)
      cases p with
      | agg cs =>
        unfold pur at e
        cases hm : mapPur (pur h n) cs with
        | none => simp [hm] at e
        | some x =>
          obtain ⟨y, l0⟩ := x
          simp [hm] at e
          obtain ⟨rfl, rfl⟩ := e
          cases hx with
          | agg _ _ vs hl h1 hr => obtain ⟨a, b⟩ := many hm hL hl hr; exact .agg _ _ _ a h1 b
      | tup cs =>
        unfold pur at e
        cases hm : mapPur (pur h n) cs with
        | none => simp [hm] at e
        | some x =>
          obtain ⟨y, l0⟩ := x
          simp [hm] at e
          obtain ⟨rfl, rfl⟩ := e
          cases hx with
          | tup _ _ vs hl hr => obtain ⟨a, b⟩ := many hm hL hl hr; exact .tup _ _ _ a b
      | bool | int | str | nilp | nils | nilm | nilf | nili => unfold pur at e; simp at e; obtain ⟨rfl, rfl⟩ := e; cases hx; constructor
      | lst full es =>
        unfold pur at e; simp at e; obtain ⟨rfl, rfl⟩ := e
        cases hx with
        | lst0 _ _ a cap hf => exact .lst0 _ _ _ _ hf
        | lst _ _ _ b off esz cap x hf hc hs hm h1 hr => exact .lst _ _ _ _ _ esz _ x hf hc hs (fun i e j c a k => frz_le L _ _ (hm i e j c a k)) h1 fun i e j c a k => (hr i e j c a k).mono (frz_le L) (.refl _)
      | view cs =>
        unfold pur at e; simp at e; obtain ⟨rfl, rfl⟩ := e
        cases hx with
        | view _ _ b off x hm h1 hr => exact .view _ _ _ _ x (fun j c a => frz_le L _ _ (hm j c a)) h1 fun j c a => (hr j c a).mono (frz_le L) (.refl _)
      | yl | mp => simp [pur] at e
      | own id off len =>
        unfold pur at e
        simp only at e
        split at e
        · rename_i es ex fz hb
          cases hc : Nat.ble (off + len) es.length with
          | false => simp [hc] at e
          | true =>
            simp [hc] at e
            obtain ⟨qs, l0, hm, rfl, rfl⟩ := e
            have hle : off + len ≤ es.length := Nat.le_of_ble_eq_true hc
            cases hx with
            | own _ _ _ _ r hr hcap =>
              obtain ⟨r', hr', arr, ety, h1, h2, h3, h4, h5, h6, h7⟩ := s.blk id _ hb
              rw [hr] at hr'; cases hr'
              obtain ⟨k1, k2⟩ := mapPur_ok hm
              have hqlen : qs.length = len := by rw [k1]; simp; omega
              have elem : ∀ (i : Nat) (qe : PV), qs[i]? = some qe → ∃ el l', es[off + i]? = some el ∧ pur h n el = some (qe, l') ∧ (∀ x ∈ l', x ∈ l0) := by
                intro i qe hqe
                have hi : i < len := by rw [← hqlen]; exact (List.getElem?_eq_some_iff.1 hqe).1
                have hes : ((es.drop off).take len)[i]? = some es[off + i] := by
                  rw [List.getElem?_take, if_pos hi, List.getElem?_drop]; exact List.getElem?_eq_getElem (by omega)
                obtain ⟨q', l', a1, a2, a3⟩ := k2 i _ hes
                rw [hqe] at a2; cases a2
                exact ⟨_, l', List.getElem?_eq_getElem (by omega), a1, a3⟩
              rw [← hqlen]
              refine .lst _ _ _ _ _ r.esz _ (fun i j => (arr[r.base + (off + i) * r.esz + j]?).getD undef) (by intro h; cases h) (by omega) ?_ ?_ ?_ ?_
              · intro i qe hqe
                obtain ⟨el, l', a1, a2, _⟩ := elem i qe hqe
                rw [(pur_cells a2).1]; exact h6 _ _ a1
              all_goals
                intro i qe j c hqe hcj
                obtain ⟨el, l', a1, a2, a3⟩ := elem i qe hqe
                have hcl := pur_cells a2
                have hj : j < el.cells.length := by rw [← hcl.1]; exact (List.getElem?_eq_some_iff.1 hcj).1
                have hlt : r.base + (off + i) * r.esz + j < arr.size := row_in h3 h2 a1 (h6 _ _ a1) hj
                obtain ⟨n', c', l'', b1, b2, b3, b4⟩ := hcl.2 j _ (List.getElem?_eq_getElem hj)
                rw [hcj] at b3; cases b3
                have hv := h7 (off + i) el j _ _ a1 (List.getElem?_eq_getElem hj) (Array.getElem?_eq_getElem hlt)
                simp only [Array.getElem?_eq_getElem hlt, Option.getD_some]
              · have e1 : r.base + off * r.esz + i * r.esz + j = r.base + (off + i) * r.esz + j := by rw [Nat.add_mul]; omega
                rw [e1]
                refine frz_in s ⟨id, hL id (by simp), r, _, hr, hb, rfl, rfl, ?_⟩ (by rw [cell?_eq (a := ⟨r.b, r.base + (off + i) * r.esz + j, none⟩) h1 rfl]; exact Array.getElem?_eq_getElem hlt)
                have := row_in (i := off + i) (es := es) (r := { r with cap := es.length }) (n := r.base + es.length * r.esz) (Nat.le_refl _) (Nat.le_refl _) a1 (h6 _ _ a1) hj
                exact this
              · exact hv.1
              · exact ih n' (by omega) _ _ l'' _ b2 hv.2 fun x hx => hL x (by simp [a3 x (b4 x hx)])
        · cases e
      | ptr id off =>
        unfold pur at e
        simp only at e
        split at e
        · rename_i cs fz hb
          cases hc : Nat.blt off cs.length with
          | false => simp [hc] at e
          | true =>
            simp [hc] at e
            obtain ⟨qs, l0, hm, rfl, rfl⟩ := e
            cases hx with
            | ptr _ _ _ r hr =>
              obtain ⟨r', hr', h0, arr, ety, h1, h2, h3, h4⟩ := s.blk id _ hb
              rw [hr] at hr'; cases hr'
              obtain ⟨k1, k2⟩ := mapPur_ok hm
              refine .view _ _ _ _ (fun j => (arr[off + j]?).getD undef) ?_ ?_ ?_
              all_goals
                intro j c hcj
                have hj : j < (cs.drop off).length := by rw [← k1]; exact (List.getElem?_eq_some_iff.1 hcj).1
                have hj' : off + j < cs.length := by simp at hj; omega
                obtain ⟨c', l', b1, b2, b3⟩ := k2 j _ (List.getElem?_eq_getElem hj)
                rw [hcj] at b2; cases b2
                have hlt : off + j < arr.size := by omega
                simp only [Array.getElem?_eq_getElem hlt, Option.getD_some]
              · refine frz_in s ⟨id, hL id (by simp), r, _, hr, hb, rfl, rfl, trivial⟩ ?_
                rw [cell?_eq (a := ⟨r.b, r.base + off + j, none⟩) h1 rfl, h0, Nat.zero_add]; exact Array.getElem?_eq_getElem hlt
              · exact h3 _ _ (Array.getElem?_eq_getElem hlt)
              · refine ih n (by omega) _ _ l' _ b1 (h4 (off + j) _ _ ?_ (Array.getElem?_eq_getElem hlt)) fun x hx => hL x (by simp [b3 x hx])
                rw [List.getElem_drop]; exact List.getElem?_eq_getElem hj'
        · cases e
      | ept id i off =>
        unfold pur at e
        simp only at e
        split at e
        · rename_i es ex fz hb
          split at e
          · rename_i el hel
            rw [lget_eq] at hel
            cases hc : Nat.blt off el.cells.length with
            | false => simp [hc] at e
            | true =>
              simp [hc] at e
              obtain ⟨qs, l0, hm, rfl, rfl⟩ := e
              cases hx with
              | ept _ _ _ _ r hr =>
                obtain ⟨r', hr', arr, ety, h1, h2, h3, h4, h5, h6, h7⟩ := s.blk id _ hb
                rw [hr] at hr'; cases hr'
                obtain ⟨k1, k2⟩ := mapPur_ok hm
                refine .view _ _ _ _ (fun j => (arr[r.base + i * r.esz + (off + j)]?).getD undef) ?_ ?_ ?_
                all_goals
                  intro j c hcj
                  have hj : j < (el.cells.drop off).length := by rw [← k1]; exact (List.getElem?_eq_some_iff.1 hcj).1
                  have hj' : off + j < el.cells.length := by simp at hj; omega
                  obtain ⟨c', l', b1, b2, b3⟩ := k2 j _ (List.getElem?_eq_getElem hj)
                  rw [hcj] at b2; cases b2
                  have hlt : r.base + i * r.esz + (off + j) < arr.size := row_in h3 h2 hel (h6 _ _ hel) hj'
                  have hv := h7 i el (off + j) _ _ hel (List.getElem?_eq_getElem hj') (Array.getElem?_eq_getElem hlt)
                  simp only [Array.getElem?_eq_getElem hlt, Option.getD_some]
                · have e1 : r.base + i * r.esz + off + j = r.base + i * r.esz + (off + j) := by omega
                  rw [e1]
                  refine frz_in s ⟨id, hL id (by simp), r, _, hr, hb, rfl, rfl, ?_⟩ (by rw [cell?_eq (a := ⟨r.b, r.base + i * r.esz + (off + j), none⟩) h1 rfl]; exact Array.getElem?_eq_getElem hlt)
                  exact row_in (i := i) (es := es) (r := { r with cap := es.length }) (n := r.base + es.length * r.esz) (Nat.le_refl _) (Nat.le_refl _) hel (h6 _ _ hel) hj'
                · exact hv.1
                · refine ih n (by omega) _ _ l' _ b1 ?_ fun x hx => hL x (by simp [b3 x hx])
                  rw [List.getElem_drop]; exact hv.2
          · cases e
        · cases e
      | fn f a b =>
        unfold pur at e
        simp only at e
        split at e
        · rename_i qa la qb lb ha hb
          cases e
          cases hx with
          | fn _ _ _ _ va vb hf hla hlb hra hrb =>
            obtain ⟨a1, a2⟩ := many ha (fun x hx => hL x (List.mem_append_left _ hx)) hla hra
            obtain ⟨b1, b2⟩ := many hb (fun x hx => hL x (List.mem_append_right _ hx)) hlb hrb
            exact .fn _ _ _ _ _ _ hf a1 b1 a2 b2
        · cases e
      | ifc t x =>
        unfold pur at e
        cases hm : pur h n x with
        | none => simp [hm] at e
        | some y =>
          obtain ⟨y, l0⟩ := y
          simp [hm] at e
          obtain ⟨rfl, rfl⟩ := e
          cases hx with
          | ifc _ _ _ v hr => exact .ifc _ _ _ _ (ih n (by omega) _ _ l0 _ hm hr hL)
theorem purl_ok (s : Sim M μ h w) (L : List Nat) : ∀ {ps qs : List PV} {l : List Nat} {vs : List Value}, purl h ps = some (qs, l) → RepL M μ ps vs → (∀ x ∈ l, x ∈ L) → RepL (frz M h μ w L) mu0 qs vs
  | [], qs, l, vs, e, hr, _ => by simp [purl] at e; obtain ⟨rfl, rfl⟩ := e; rw [hr.nil_inv]; exact RepL.nil _ _
  | p :: ps, qs, l, vs, e, hr, hL => by
    unfold purl at e
    split at e
    · rename_i q a qs' b h1 h2
      cases e
      obtain ⟨v, ws, rfl, r1, r2⟩ := hr.cons_inv
      exact RepL.cons (pur_ok s L _ _ _ _ _ h1 r1 fun x hx => hL x (List.mem_append_left _ hx)) (purl_ok s L h2 r2 fun x hx => hL x (List.mem_append_right _ hx))
    · cases e

theorem freeze1 (s : Sim M μ h w) {id : Nat} {b b' : Blk} {h' : Hp} (hb : h.get id = some b) (hs : h.set id b' = some h')
    (hk : (∃ cs fz, b = .box cs fz ∧ b' = .box cs true) ∨ ∃ es ex fz, b = .row es ex fz ∧ b' = .row es ex true) : Sim (frz M h μ w [id]) μ h' w := by
  obtain ⟨r, hr, hat⟩ := s.blk id b hb
  have hget := (Hp.get_set hs).1
  have hle := frz_le (M := M) (h := h) (μ := μ) (w := w) [id]
  have hlive : b.live := by rcases hk with ⟨_, _, rfl, _⟩ | ⟨_, _, _, rfl, _⟩ <;> trivial
  constructor
  · intro a v e; exact frz_mem s e
  · intro k bk hkk
    rw [hget] at hkk
    by_cases ek : k = id
    · rw [if_pos ek] at hkk; cases hkk; subst ek
      refine ⟨r, hr, BlkAt.mono hle (.refl _) ?_⟩
      rcases hk with ⟨_, _, rfl, rfl⟩ | ⟨_, _, _, rfl, rfl⟩ <;> exact hat
    · rw [if_neg ek] at hkk
      obtain ⟨rk, hrk, hatk⟩ := s.blk k bk hkk
      exact ⟨rk, hrk, hatk.mono hle (.refl _)⟩
  · intro k rk hkr
    have := s.use k rk hkr
    refine ⟨?_, this.2⟩
    rw [hget]; split <;> simp_all
  · intro k k' rk rk' bk bk' a1 a2 a3 a4 a5 a6 a7
    rw [hget] at a3 a4
    by_cases e : k = id
    · by_cases e' : k' = id
      · exact e.trans e'.symm
      · rw [if_neg e'] at a4; subst e; exact s.inj _ _ rk rk' b bk' a1 a2 hb a4 hlive a6 a7
    · rw [if_neg e] at a3
      by_cases e' : k' = id
      · subst e'; exact s.inj _ _ rk rk' bk b a1 a2 a3 hb a5 hlive a7
      · rw [if_neg e'] at a4; exact s.inj _ _ rk rk' bk bk' a1 a2 a3 a4 a5 a6 a7
  · intro k rk bk a v a1 a2 a3 a4 a5
    rw [hget] at a1
    by_cases e : k = id
    · subst e
      rw [if_pos rfl] at a1; cases a1
      rw [hr] at a2; cases a2
      rcases frz_inv a4 with a4 | ⟨⟨id0, hid, r0, b0, hr0, hb0, hab, _, hfc⟩, _⟩
      · have := s.sep k r b a v hb hr hlive a4 a5
        rcases hk with ⟨_, _, rfl, rfl⟩ | ⟨_, _, _, rfl, rfl⟩
        · rfl
        · exact ⟨rfl, this.2⟩
      · simp at hid; subst hid
        rw [hr] at hr0; cases hr0
        rw [hb] at hb0; cases hb0
        rcases hk with ⟨_, _, rfl, rfl⟩ | ⟨_, _, _, rfl, rfl⟩
        · rfl
        · exact ⟨rfl, hfc⟩
    · rw [if_neg e] at a1
      rcases frz_inv a4 with a4 | ⟨⟨id0, hid, r0, b0, hr0, hb0, hab, _, hfc⟩, _⟩
      · exact s.sep k rk bk a v a1 a2 a3 a4 a5
      · simp at hid; subst hid
        exact absurd (s.inj k id0 rk r0 bk b0 a2 hr0 a1 hb0 a3 (by cases b0 <;> first | trivial | exact hfc.elim) (a5.symm.trans hab)) e
theorem freeze_ok : ∀ (L : List Nat) {M : Mem} {h h' : Hp}, Sim M μ h w → freeze h L = some h' → ∃ M', MLe (frz M h μ w L) M' ∧ Sim M' μ h' w ∧ (∀ a v, M' a = some v → M a = some v ∨ ∃ id r, μ id = some r ∧ r.b = a.block) ∧ h'.nx = h.nx
  | [], M, h, h', s, e => by
    simp [freeze] at e; subst e
    refine ⟨M, fun a v hv => ?_, s, fun a v hv => .inl hv, rfl⟩
    rcases frz_inv hv with hv | ⟨⟨_, hm, _⟩, _⟩
    · exact hv
    · simp at hm
  | id :: L, M, h, h', s, e => by
    have key : ∀ (b b' : Blk) (h1 : Hp), h.get id = some b → h.set id b' = some h1 → ((∃ cs fz, b = .box cs fz ∧ b' = .box cs true) ∨ ∃ es ex fz, b = .row es ex fz ∧ b' = .row es ex true) → freeze h1 L = some h' →
        ∃ M', MLe (frz M h μ w (id :: L)) M' ∧ Sim M' μ h' w ∧ (∀ a v, M' a = some v → M a = some v ∨ ∃ id r, μ id = some r ∧ r.b = a.block) ∧ h'.nx = h.nx := by
      intro b b' h1 hb hs hk hf
      have s1 := freeze1 s hb hs hk
      obtain ⟨M', m1, m2, m3, m4⟩ := freeze_ok L s1 hf
      have hget := (Hp.get_set hs).1
      refine ⟨M', fun a v hv => m1 a v ?_, m2, fun a v hv => ?_, m4.trans (Hp.get_set hs).2⟩
      · rcases frz_inv hv with hv | ⟨⟨id0, hm, r0, b0, hr0, hb0, hab, hsp, hfc⟩, hc⟩
        · exact frz_le L _ _ (frz_le [id] _ _ hv)
        · rcases List.mem_cons.1 hm with rfl | hm
          · exact frz_le L _ _ (frz_in s ⟨id0, by simp, r0, b0, hr0, hb0, hab, hsp, hfc⟩ hc)
          · refine frz_in s1 ⟨id0, hm, r0, ?_⟩ hc
            by_cases e0 : id0 = id
            · subst e0
              rw [hb] at hb0; cases hb0
              refine ⟨b', hr0, by rw [hget, if_pos rfl], hab, hsp, ?_⟩
              rcases hk with ⟨_, _, rfl, rfl⟩ | ⟨_, _, _, rfl, rfl⟩ <;> exact hfc
            · exact ⟨b0, hr0, by rw [hget, if_neg e0]; exact hb0, hab, hsp, hfc⟩
      · rcases m3 a v hv with hv | hv
        · rcases frz_inv hv with hv | ⟨⟨id0, _, r0, b0, hr0, _, hab, _⟩, _⟩
          · exact .inl hv
          · exact .inr ⟨id0, r0, hr0, hab.symm⟩
        · exact .inr hv
    unfold freeze at e
    split at e
    · rename_i cs fz hb
      split at e
      · rename_i h1 hs; exact key _ _ h1 hb hs (.inl ⟨cs, fz, rfl, rfl⟩) e
      · cases e
    · rename_i es ex fz hb
      split at e
      · rename_i h1 hs; exact key _ _ h1 hb hs (.inr ⟨es, ex, fz, rfl, rfl⟩) e
      · cases e
    · cases e
theorem freeze_grow {L : List Nat} {M' : Mem} (hM : MLe (frz M h μ w L) M') (hM' : ∀ a v, M' a = some v → M a = some v ∨ ∃ id r, μ id = some r ∧ r.b = a.block) : Grow M μ w M' μ w :=
  ⟨(frz_le L).trans hM, .refl _, fun a v hv => (hM' a v hv).imp id .inl, fun id r h => .inl ⟨id, r, h, rfl⟩, Nat.le_refl _, fun _ _ _ => rfl, rfl, rfl, rfl, fun _ arr _ _ h => .inr ⟨arr, h⟩⟩
end
end Go.Proofs.YtopoaknleakdcaaGreat.Pi
namespace Go.Proofs.YtopoaknleakdcaaGreat.Pi
section
variable {P : Program} {M : Mem} {μ : Mu} {h : Hp} {w : World}

theorem mapOpt {α β : Type} {o : Option α} {f : α → β} {b : β} (e : o.map f = some b) : ∃ a, o = some a ∧ f a = b := by
  cases o with
  | none => cases e
  | some a => exact ⟨a, rfl, by simpa using e⟩
theorem bifT {α : Type} {c : Bool} {a : α} {x : Option α} (e : (bif c then x else none) = some a) : c = true ∧ x = some a := by
  cases c with
  | false => cases e
  | true => exact ⟨rfl, e⟩
theorem bifF {α : Type} {c : Bool} {a : α} {x : Option α} (e : (bif c then none else x) = some a) : c = false ∧ x = some a := by
  cases c with
  | true => cases e
  | false => exact ⟨rfl, e⟩

theorem store_ok (s : Sim M μ h w) {ty : TypeId} {p v : PV} {x y : Value} (hx : Rep M μ p x) (hy : Rep M μ v y) {r : R}
    (e : evStore P h ty p v = some r) : Says P M μ w ((do Instr.storeAt ty x y; pure .skip : Sem Next).run P w) r := by
  unfold evStore at e
  split at e
  · rename_i n hsz
    obtain ⟨hc, e⟩ := bifF e
    simp at hc
    obtain ⟨hn0, hn⟩ := hc
    split at e
    · rename_i j off
      split at e
      · rename_i cs hb
        obtain ⟨hle, e⟩ := bifT e
        obtain ⟨h', hs, rfl⟩ := mapOpt e
        cases hx with
        | ptr _ _ _ r hr => exact store_box s hr hb hy hsz hn hn0 (by simpa using hle) hs
      · cases e
    · rename_i j i off
      split at e
      · rename_i es ex hb
        split at e
        · rename_i el he
          rw [lget_eq] at he
          obtain ⟨hle, e⟩ := bifT e
          cases hx with
          | ept _ _ _ _ r hr =>
            split at e
            · rename_i cs
              obtain ⟨h', hs, rfl⟩ := mapOpt e
              exact store_row s hr hb he rfl hy hsz hn hn0 (by simpa using hle) hs
            · split at e
              · rename_i c hvc
                obtain ⟨h0, e'⟩ := bifT e
                clear e
                simp at h0
                obtain ⟨rfl, h1⟩ := h0
                have hel' : ∀ c' : PV, (∀ cs, c' ≠ .agg cs) → (∀ cs, c' ≠ .tup cs) → c' = c → c'.cells = lput el.cells 0 v.cells := by
                  rintro c' ha ht rfl
                  rw [hvc]
                  have : c'.cells = [c'] := by cases c' <;> first | rfl | exact absurd rfl (ha _) | exact absurd rfl (ht _)
                  rw [this]
                  obtain ⟨a, ha⟩ : ∃ a, el.cells = [a] := List.length_eq_one_iff.1 h1
                  rw [ha]; rfl
                split at e'
                · cases e'
                · cases e'
                · rename_i ha ht
                  obtain ⟨h', hs, rfl⟩ := mapOpt e'
                  exact store_row s hr hb he (hel' _ (fun cs => ha cs) (fun cs => ht cs) rfl) hy hsz hn hn0 (by simpa using hle) hs
              · cases e
        · cases e
      · cases e
    · cases e
  · cases e

theorem nil_ok (s : Sim M μ h w) {p : PV} {x : Value} (hx : Rep M μ p x) {r : R} (e : evNil h p = some r) :
    Says P M μ w ((match (generalizing := false) x with
    | .pointer none | .nilIface | .nilFunc => runtimePanic .nilDeref
    | .func (.method name) first captured =>
      match (first[0]? : Option Value) with
      | some .nilIface => runtimePanic .nilDeref
      | some (.iface t w) => do
        if (← nilAhead ((← program).types.size + Made.depth) t w name) != some false then
          unsupported (.noEntry "op/nilCheck.the method's receiver behind this interface value is a nil pointer, or cannot be seen to be none, and the arguments act or may panic (ledger 612)")
        pure (.value (.func (.method name) first captured))
      | _ => pure (.value (.func (.method name) first captured))
    | x => pure (.value x) : Sem Next).run P w) r := by
  unfold evNil at e
  split at e <;> (try (cases e; done)) <;> cases e
  · cases hx with | ptr _ _ _ r hr => exact ⟨M, μ, w, _, rfl, s, .refl _ _ _, .ptr _ _ _ r hr⟩
  · cases hx with | ept _ _ _ _ r hr => exact ⟨M, μ, w, _, rfl, s, .refl _ _ _, .ept _ _ _ _ r hr⟩
  · cases hx with | view _ _ b off x hm h1 hr => exact ⟨M, μ, w, _, rfl, s, .refl _ _ _, .view _ _ _ _ x hm h1 hr⟩
  · cases hx with | ifc _ _ _ v hr => exact ⟨M, μ, w, _, rfl, s, .refl _ _ _, .ifc _ _ _ _ hr⟩
  · cases hx with | yl _ _ r hr => exact ⟨M, μ, w, _, rfl, s, .refl _ _ _, .yl _ _ r hr⟩
  · cases hx with | fn _ _ _ _ va vb hf hla hlb ha hb => exact ⟨M, μ, w, _, rfl, s, .refl _ _ _, .fn _ _ _ _ _ _ hf hla hlb ha hb⟩

theorem mapM_run {α β : Type} (g : α → Sem β) (f : α → β) : ∀ (l : List α), (∀ x ∈ l, (g x).run P w = .ok (f x) w) → (l.mapM g).run P w = .ok (l.map f) w
  | [], _ => by simp
  | a :: l, hl => by
    have h1 := hl a (by simp)
    have h2 := mapM_run g f l fun x hx => hl x (by simp [hx])
    simp [List.mapM_cons, h1, h2]
def fsize (P : Program) (f : Field) : Nat := (tsize P f.type).getD 0
theorem sizes_ok {fs : Array Field} (hall : fs.toList.all (fun f => (tsize P f.type).isSome) = true) :
    (fs.mapM (fun f => (do pure (f.offset, ← sizeOf f.type) : Sem (Nat × Nat)))).run P w = .ok (fs.map fun f => (f.offset, fsize P f)) w := by
  rw [Array.mapM_eq_mapM_toList]
  have := mapM_run (P := P) (w := w) (fun f : Field => (do pure (f.offset, ← sizeOf f.type) : Sem (Nat × Nat))) (fun f => (f.offset, fsize P f)) fs.toList ?_
  · simp only [Sem.run_map, this, Result.andThen]
    congr 1
    apply Array.ext'
    simp
  · intro f hf
    have := List.all_eq_true.1 hall f hf
    obtain ⟨n, hn⟩ := Option.isSome_iff_exists.1 this
    simp [tsize_ok hn, fsize, hn]
end
end Go.Proofs.YtopoaknleakdcaaGreat.Pi
namespace Go.Proofs.YtopoaknleakdcaaGreat.Pi
section
variable {P : Program} {M : Mem} {μ : Mu} {h : Hp} {w : World}

inductive PsRep (M : Mem) (μ : Mu) : List (Nat × PV) → List (Nat × Value) → Prop
  | nil : PsRep M μ [] []
  | cons (i : Nat) (p : PV) (v : Value) (ps : List (Nat × PV)) (vs : List (Nat × Value)) (h : Rep M μ p v) (t : PsRep M μ ps vs) : PsRep M μ ((i, p) :: ps) ((i, v) :: vs)
theorem partsOf_ok {t : T PV} {nt : Nat} {a : Act} (ht : TmpsRep M μ t nt a.tmps) : ∀ {l : List (Nat × Operand)} {ps : List (Nat × PV)}, partsOf t l = some ps → PsRep M μ ps (l.map fun (i, x) => (i, a.eval x))
  | [], ps, e => by cases e; exact .nil
  | (i, o) :: l, ps, e => by
    unfold partsOf at e
    split at e
    · rename_i p q hp hq; cases e; exact .cons _ _ _ _ _ (evs_ok ht hp) (partsOf_ok ht hq)
    · cases e

theorem places_ok {fs : Array Field} {ps : List (Nat × PV)} {vs : List (Nat × Value)} (hps : PsRep M μ ps vs) : ∀ {pl : List (Nat × Nat × List PV)}, placesOf P fs ps = some pl →
    PartsAt M μ (fun i => (fs.map fun f => (f.offset, fsize P f))[i]?) vs pl := by
  induction hps with
  | nil => intro pl e; cases e; exact .nil
  | cons i p v ps vs hr _ ih =>
    intro pl e
    unfold placesOf at e
    split at e
    · rename_i f r hf hr'
      split at e
      · rename_i n hn
        obtain ⟨hn0, e⟩ := bifT e
        cases e
        refine .cons _ _ _ _ _ _ _ ?_ hr (by simpa using hn0) (ih hr')
        simp [hf, fsize, hn]
      · cases e
    · cases e
theorem placesArr_ok {n : Nat} (hn : 0 < n) {ps : List (Nat × PV)} {vs : List (Nat × Value)} (hps : PsRep M μ ps vs) : PartsAt M μ (fun i => some (i * n, n)) vs (placesArr n ps) := by
  induction hps with
  | nil => exact .nil
  | cons i p v ps vs hr _ ih => exact .cons _ _ _ _ _ _ _ rfl hr hn ih
theorem oneAll {vs : Array Value} (h : ∀ v ∈ vs.toList, v.oneCell' = true) : ∀ (i : Nat) (v : Value), vs[i]? = some v → v.oneCell' = true :=
  fun _ v hv => h v (Array.mem_toList_iff.2 (Array.mem_of_getElem? hv))

theorem build_ok (s : Sim M μ h w) {ty : TypeId} {ps : List (Nat × PV)} {parts : Array (Nat × Value)} (hps : PsRep M μ ps parts.toList) {r : R} (e : evBuild P h ty ps = some r) :
    Says P M μ w ((do pure (.value (← Instr.build ty parts)) : Sem Next).run P w) r := by
  unfold evBuild at e
  split at e
  · rename_i z fs hz hu
    obtain ⟨hall, e⟩ := bifT e
    split at e
    · rename_i pl hpl
      obtain ⟨cs, hcs, rfl⟩ := mapOpt e
      obtain ⟨zv, i, hi, hiz, hrun, hr, h1⟩ := zeroCells_ok hz M μ w
      obtain ⟨cells', hf, hr', h1'⟩ := fill_ok (places_ok hps hpl) hr (oneAll h1) hcs
      refine says_val s (x := .agg cells') ?_ (.agg _ _ _ (by simpa using hr'.1) h1' fun i c v hc hv => hr'.2 i c v hc (by simpa using hv))
      simp only [Instr.build, Sem.run_bind, hrun, Result.andThen, und_ok hu, Sem.run_pure, sizes_ok hall, hf]
    · cases e
  · rename_i z n el hz hu
    split at e
    · rename_i n hn
      obtain ⟨hn0, e⟩ := bifT e
      obtain ⟨cs, hcs, rfl⟩ := mapOpt e
      obtain ⟨zv, i, hi, hiz, hrun, hr, h1⟩ := zeroCells_ok hz M μ w
      obtain ⟨cells', hf, hr', h1'⟩ := fill_ok (placesArr_ok (by simpa using hn0) hps) hr (oneAll h1) hcs
      refine says_val s (x := .agg cells') ?_ (.agg _ _ _ (by simpa using hr'.1) h1' fun i c v hc hv => hr'.2 i c v hc (by simpa using hv))
      simp only [Instr.build, Sem.run_bind, hrun, Result.andThen, und_ok hu, Sem.run_pure, tsize_ok hn, hf]
    · cases e
  · cases e

/-- elements against the cells of a row -/
def FlatRep (M : Mem) (μ : Mu) (n : Nat) (es : List PV) (arr : Array Value) : Prop :=
  arr.size = es.length * n ∧ (∀ (i : Nat) (e : PV), es[i]? = some e → e.cells.length = n) ∧
    ∀ (i : Nat) (e : PV) (j : Nat) (c : PV), es[i]? = some e → e.cells[j]? = some c → ∃ v, arr[i * n + j]? = some v ∧ v.oneCell' = true ∧ Rep M μ c v
theorem rep_one_cells {c : PV} {v : Value} (hr : Rep M μ c v) (h1 : v.oneCell' = true) : c.cells = [c] := by
  cases hr <;> first | rfl | (simp [Value.oneCell'] at h1)
theorem mkEl_cells {ag : Bool} {z : List PV} {z1 : PV} (e : mkEl ag z = some z1) {vs : List Value} (hr : RepL M μ z vs) (h1 : ∀ v ∈ vs, v.oneCell' = true) : z1.cells = z := by
  unfold mkEl at e
  cases ag with
  | true => simp at e; subst e; rfl
  | false =>
    simp at e
    split at e
    · rename_i c
      cases e
      obtain ⟨v, hv, hrv⟩ := hr.get (i := 0) rfl
      exact rep_one_cells hrv (h1 v (List.mem_of_getElem? hv))
    · cases e
theorem zeroArr (z : Array Value) (n k : Nat) (hk : k < n) : ((Array.range n).map (z[· % z.size]!))[k]? = some (z[k % z.size]!) := by
  simp [hk]
theorem flat_zero {z : List PV} {zv : Array Value} {n len : Nat} {ag : Bool} {z1 : PV} (hr : RepL M μ z zv.toList) (h1 : ∀ v ∈ zv.toList, v.oneCell' = true) (hn : z.length = n) (_hn0 : 0 < n) (e : mkEl ag z = some z1) :
    FlatRep M μ n (List.replicate len z1) ((Array.range (len * n)).map (zv[· % zv.size]!)) := by
  have hc := mkEl_cells e hr h1
  have hs : zv.size = n := by rw [← hn]; simpa using hr.1.symm
  refine ⟨by simp, fun i el hel => ?_, fun i el j c hel hcj => ?_⟩
  · obtain ⟨_, rfl⟩ := List.getElem?_eq_some_iff.1 hel
    simp [hc, hn]
  · obtain ⟨hi, rfl⟩ := List.getElem?_eq_some_iff.1 hel
    simp only [List.getElem_replicate, List.length_replicate] at hcj hi
    rw [hc] at hcj
    have hj : j < n := by rw [← hn]; exact (List.getElem?_eq_some_iff.1 hcj).1
    have hlt : i * n + j < len * n := by
      have : (i + 1) * n ≤ len * n := Nat.mul_le_mul_right _ (by omega)
      rw [Nat.add_mul] at this; omega
    have hmod : (i * n + j) % n = j := by rw [Nat.mul_comm, Nat.mul_add_mod]; exact Nat.mod_eq_of_lt hj
    refine ⟨_, zeroArr zv _ _ hlt, ?_⟩
    rw [hs, hmod]
    have hz : zv[j]? = some zv[j]! := by rw [Array.getElem?_eq_getElem (by omega)]; simp [hs, hj]
    exact ⟨oneAll h1 j _ hz, hr.2 j c _ hcj (by simpa using hz)⟩
theorem flat_set {n : Nat} {es : List PV} {arr : Array Value} {i : Nat} {p : PV} {v : Value} (hf : FlatRep M μ n es arr) (hn0 : 0 < n) (hr : Rep M μ p v) (hp : p.cells.length = n) (hi : i < es.length) :
    v.cells.size = n ∧ i * n + n ≤ arr.size ∧ FlatRep M μ n (lset es i p) (v.cells.zipIdx.foldl (fun cs (p : Value × Nat) => cs.setIfInBounds (i * n + p.2) p.1) arr) := by
  obtain ⟨hc, hone⟩ := hr.cells (notTup_of_len hp hn0)
  have hs : v.cells.size = n := by rw [← hp]; simpa using hc.1.symm
  have hle : i * n + n ≤ arr.size := by
    rw [hf.1]
    have : (i + 1) * n ≤ es.length * n := Nat.mul_le_mul_right _ (by omega)
    rw [Nat.add_mul] at this; omega
  refine ⟨hs, hle, ?_, ?_, ?_⟩
  · rw [zipIdx_fold_size, hf.1]; simp [lset_eq]
  · intro k e hk
    rw [lset_eq, List.getElem?_set] at hk
    by_cases hik : i = k
    · rw [if_pos hik, if_pos hi] at hk; cases hk; exact hp
    · rw [if_neg hik] at hk; exact hf.2.1 k e hk
  · intro k e j c hk hcj
    have hj : j < n := by
      have := (List.getElem?_eq_some_iff.1 hcj).1
      rw [lset_eq, List.getElem?_set] at hk
      by_cases hik : i = k
      · rw [if_pos hik, if_pos hi] at hk; cases hk; omega
      · rw [if_neg hik] at hk; have := hf.2.1 k e hk; omega
    rw [zipIdx_fold _ _ _ (by omega), hs]
    rw [lset_eq, List.getElem?_set] at hk
    by_cases hik : i = k
    · rw [if_pos hik, if_pos hi] at hk; cases hk; subst hik
      rw [if_pos (by omega), show i * n + j - i * n = j by omega]
      obtain ⟨y, hy, hry⟩ := hc.get hcj
      exact ⟨y, by simpa using hy, hone j y (by simpa using hy), hry⟩
    · rw [if_neg hik] at hk
      rw [if_neg ?_]
      · exact hf.2.2 k e j c hk hcj
      · intro hcon
        exact hik (mul_lt_row (i := k) (k := i) (j' := k * n + j - i * n) hj (by omega) (by omega)).1.symm
theorem fillE_ok {n : Nat} (hn0 : 0 < n) {ps : List (Nat × PV)} {vs : List (Nat × Value)} (hps : PsRep M μ ps vs) : ∀ {es es' : List PV} {arr : Array Value}, FlatRep M μ n es arr → fillE n es ps = some es' →
    ∃ arr', Instr.fill (fun i => some (i * n, n)) arr vs = some arr' ∧ FlatRep M μ n es' arr' ∧ es'.length = es.length := by
  induction hps with
  | nil => intro es es' arr hf e; simp [fillE] at e; subst e; exact ⟨arr, by simp [Instr.fill], hf, rfl⟩
  | cons i p v ps vs hr _ ih =>
    intro es es' arr hf e
    unfold fillE at e
    obtain ⟨hc, e⟩ := bifT e
    simp at hc
    obtain ⟨a, b, c⟩ := flat_set hf hn0 hr hc.1 hc.2
    obtain ⟨arr', h1, h2, h3⟩ := ih c e
    refine ⟨arr', ?_, h2, h3.trans (by simp [lset_eq])⟩
    unfold Instr.fill
    simp only [a]
    rw [if_neg (by simp; omega)]
    exact h1
theorem purl_get : ∀ {ps qs : List PV} {l : List Nat}, purl h ps = some (qs, l) → qs.length = ps.length ∧ ∀ (i : Nat) (p : PV), ps[i]? = some p → ∃ q l', pur h purDepth p = some (q, l') ∧ qs[i]? = some q ∧ ∀ x ∈ l', x ∈ l
  | [], qs, l, e => by simp [purl] at e; obtain ⟨rfl, rfl⟩ := e; exact ⟨rfl, fun i p hp => by simp at hp⟩
  | p :: ps, qs, l, e => by
    unfold purl at e
    split at e
    · rename_i q a qs' b h1 h2
      cases e
      obtain ⟨k1, k2⟩ := purl_get h2
      refine ⟨by simp [k1], fun i x hx => ?_⟩
      cases i with
      | zero => simp at hx; subst hx; exact ⟨q, a, h1, rfl, fun y hy => List.mem_append_left _ hy⟩
      | succ i =>
        obtain ⟨q', l', h3, h4, h5⟩ := k2 i x (by simpa using hx)
        exact ⟨q', l', h3, by simpa using h4, fun y hy => List.mem_append_right _ (h5 y hy)⟩
    · cases e
/-- frozen elements over the same cells -/
theorem purl_flat (s : Sim M μ h w) {n : Nat} {es qs : List PV} {ids : List Nat} {arr : Array Value} (hf : FlatRep M μ n es arr) (e : purl h es = some (qs, ids)) (L : List Nat) (hL : ∀ x ∈ ids, x ∈ L) : FlatRep (frz M h μ w L) mu0 n qs arr := by
  obtain ⟨k1, k2⟩ := purl_get e
  have get : ∀ (i : Nat) (q : PV), qs[i]? = some q → ∃ el l', es[i]? = some el ∧ pur h purDepth el = some (q, l') ∧ ∀ x ∈ l', x ∈ ids := by
    intro i q hq
    have hi : i < es.length := by rw [← k1]; exact (List.getElem?_eq_some_iff.1 hq).1
    obtain ⟨q', l', a1, a2, a3⟩ := k2 i _ (List.getElem?_eq_getElem hi)
    rw [hq] at a2; cases a2
    exact ⟨_, l', List.getElem?_eq_getElem hi, a1, a3⟩
  refine ⟨by rw [hf.1, k1], fun i q hq => ?_, fun i q j c hq hcj => ?_⟩
  · obtain ⟨el, l', a1, a2, _⟩ := get i q hq
    rw [(pur_cells a2).1]; exact hf.2.1 i el a1
  · obtain ⟨el, l', a1, a2, a3⟩ := get i q hq
    have hcl := pur_cells a2
    have hj : j < el.cells.length := by rw [← hcl.1]; exact (List.getElem?_eq_some_iff.1 hcj).1
    obtain ⟨n', c', l'', b1, b2, b3, b4⟩ := hcl.2 j _ (List.getElem?_eq_getElem hj)
    rw [hcj] at b3; cases b3
    obtain ⟨v, c1, c2, c3⟩ := hf.2.2 i el j _ a1 (List.getElem?_eq_getElem hj)
    exact ⟨v, c1, c2, pur_ok s L n' _ _ l'' v b2 c3 fun x hx => hL x (a3 x (b4 x hx))⟩
theorem FlatRep.mono {M' : Mem} {μ' : Mu} {n : Nat} {es : List PV} {arr : Array Value} (hf : FlatRep M μ n es arr) (hM : MLe M M') (hμ : MuLe μ μ') : FlatRep M' μ' n es arr :=
  ⟨hf.1, hf.2.1, fun i e j c a b => let ⟨v, h1, h2, h3⟩ := hf.2.2 i e j c a b; ⟨v, h1, h2, h3.mono hM hμ⟩⟩
/-- a list over a row of data -/
theorem lst_of_flat {M' : Mem} {n : Nat} {es : List PV} {arr : Array Value} {b off : Nat} (hf : FlatRep M' mu0 n es arr) (hM : ∀ (k : Nat) (v : Value), arr[k]? = some v → M' ⟨b, off + k, none⟩ = some v) (μ : Mu) (full : Bool) (cap : Nat) (hc : es.length ≤ cap) (hfull : full = true → cap = es.length) :
    Rep M' μ (.lst full es) (.slice (some ⟨b, off, none⟩) es.length cap) := by
  refine .lst _ _ _ _ _ n _ (fun i j => (arr[i * n + j]?).getD undef) hfull hc hf.2.1 ?_ ?_ ?_
  all_goals
    intro i e j c hi hj
    obtain ⟨v, h1, h2, h3⟩ := hf.2.2 i e j c hi hj
    simp only [h1, Option.getD_some]
  · rw [Nat.add_assoc]; exact hM _ _ h1
  · exact h2
  · exact h3

theorem buildSlice_ok (s : Sim M μ h w) {ty : TypeId} {len : Nat} {ps : List (Nat × PV)} {parts : Array (Nat × Value)} (hps : PsRep M μ ps parts.toList) {r : R} (e : evBuildSlice P h ty len ps = some r) :
    Says P M μ w ((do pure (.value (← Instr.buildSlice ty len parts)) : Sem Next).run P w) r := by
  unfold evBuildSlice at e
  split at e
  · rename_i el hu
    split at e
    · rename_i n ag z hn hag hz
      split at e
      · rename_i z1 hz1
        obtain ⟨hc, e⟩ := bifF e
        simp at hc
        obtain ⟨⟨hn0, hle⟩, hzl⟩ := hc
        split at e
        · rename_i es hes
          split at e
          · rename_i qs ids hpur
            obtain ⟨h', hfr, rfl⟩ := mapOpt e
            obtain ⟨zv, i, hi, hiz, hrun, hr, h1⟩ := zeroCells_ok hz M μ w
            obtain ⟨arr', hf, hflat, hlen⟩ := fillE_ok hn0 hps (flat_zero (len := len) hr h1 hzl hn0 hz1) hes
            obtain ⟨M', m1, m2, m3, _⟩ := freeze_ok ids s hfr
            have hq := (purl_flat s hflat hpur ids (fun _ h => h)).mono m1 (.refl _)
            have hd := m2.data (w' := w.alloc (.cells arr' el)) (arr := arr') (ty := el) rfl
            have hql : qs.length = len := by rw [(purl_get hpur).1, hlen]; simp
            refine ⟨_, μ, w.alloc (.cells arr' el), .slice (some ⟨w.heap.size, 0, none⟩) len len, ?_, hd.1, (freeze_grow m1 m3).trans (Grow.data hd.2 rfl rfl rfl rfl (fun _ _ _ h => by cases h; rfl)), ?_⟩
            · have hsmall : ¬ (2 ^ 24 < len * n) := by simpa using hle
              by_cases h0 : len * n = 0
              · have hl0 : len = 0 := by rcases Nat.mul_eq_zero.1 h0 with h | h <;> omega
                have hzero : (Array.range (len * n)).map (zv.cells[· % zv.cells.size]!) = (Array.range (len * n)).map ((#[] : Array Value)[· % (#[] : Array Value).size]!) := by simp [h0]
                rw [hzero] at hf
                simp [h0] at hf
                simp [Instr.buildSlice, und_ok hu, tsize_ok hn, h0, hf, newRow]
              · simp [Instr.buildSlice, und_ok hu, tsize_ok hn, h0, hrun, hsmall, hf, newRow]
            · rw [← hql]
              refine lst_of_flat (arr := arr') (hq.mono hd.2 (.refl _)) (fun k v hk => ?_) μ true _ (Nat.le_refl _) (fun _ => rfl)
              simp [memAdd, hk]
          · cases e
        · cases e
      · cases e
    · cases e
  · cases e

theorem asNat_ok {p : PV} {n : Nat} {v : Value} (e : asNat p = some n) (hr : Rep M μ p v) : ∃ k i, p = .int k i ∧ v = .int k i ∧ 0 ≤ i ∧ i.toNat = n := by
  unfold asNat at e
  split at e
  · rename_i k i
    obtain ⟨h0, e⟩ := bifT e
    cases e
    cases hr
    exact ⟨k, i, rfl, rfl, by simpa using h0, rfl⟩
  · cases e
theorem asInt64_ok {p : PV} {n : Nat} {v : Value} (e : asInt64 p = some n) (hr : Rep M μ p v) : ∃ i, v = .int .i64 i ∧ 0 ≤ i ∧ i.toNat = n := by
  unfold asInt64 at e
  split at e
  · rename_i i
    obtain ⟨h0, e⟩ := bifT e
    cases e
    cases hr
    exact ⟨i, rfl, by simpa using h0, rfl⟩
  · cases e
theorem wrap_small (i : Int) (h0 : 0 ≤ i) (h1 : i < 9223372036854775808) : IntKind.i64.wrap i = i := by
  unfold IntKind.wrap
  have e : i % (2 ^ IntKind.i64.bits : Int) = i := by
    have : (2 ^ IntKind.i64.bits : Int) = 18446744073709551616 := by decide
    rw [this]; omega
  simp only [e]
  have e2 : ¬ (i ≥ (2 ^ (IntKind.i64.bits - 1) : Int)) := by
    have : (2 ^ (IntKind.i64.bits - 1) : Int) = 9223372036854775808 := by decide
    rw [this]; omega
  simp [e2]
theorem make_ok (s : Sim M μ h w) {id : Nat} {ty : TypeId} {l c : PV} {x y : Value} (hx : Rep M μ l x) (hy : Rep M μ c y) {r : R} (e : evMake P h id ty l c = some r) :
    Says P M μ w ((do pure (.value (← Instr.makeSlice ty x y)) : Sem Next).run P w) r := by
  unfold evMake at e
  split at e
  · rename_i el ln cn hu hl hc
    split at e
    · rename_i n ag z ti hn hag hz hti
      split at e
      · rename_i z1 hz1
        obtain ⟨hcond, e⟩ := bifT e
        simp [smallN] at hcond
        obtain ⟨⟨⟨⟨hlc, hcs⟩, hb⟩, hn0⟩, hzl⟩ := hcond
        obtain ⟨h', hnew, rfl⟩ := mapOpt e
        obtain ⟨li, rfl, hl0, rfl⟩ := asInt64_ok hl hx
        obtain ⟨ci, rfl, hc0, rfl⟩ := asInt64_ok hc hy
        obtain ⟨zv, i, hi, hiz, hrun, hr, h1⟩ := zeroCells_ok hz M μ w
        obtain ⟨hget, hset, _⟩ := Hp.get_new hnew
        have hflat := flat_zero (len := ci.toNat) hr h1 hzl hn0 hz1
        have hμ : μ id = none := by
          cases hm : μ id with
          | none => rfl
          | some x => exact absurd hget (s.use id x hm).1
        have hS := s.fresh (w' := w.alloc (.cells ((Array.range (ci.toNat * n)).map (zv.cells[· % zv.cells.size]!)) el)) (r := ⟨w.heap.size, 0, n, ci.toNat⟩) (o := .cells _ el (0, 0)) hget hset rfl rfl
          ⟨_, el, rfl, by simp, by simp, by simp, hn0, fun i e he => hflat.2.1 i e he, fun i e j c v a b hv => by
            obtain ⟨v', c1, c2, c3⟩ := hflat.2.2 i e j c a b
            simp only [Nat.zero_add] at hv
            rw [hv] at c1; cases c1
            exact ⟨c2, c3.mono (.refl _) (upd_le hμ)⟩⟩
        refine ⟨M, _, _, .slice (some ⟨w.heap.size, 0, none⟩) li.toNat ci.toNat, ?_, hS.1, Grow.newBlk hμ rfl rfl rfl rfl rfl (fun _ _ _ h => by cases h; rfl), ?_⟩
        · have w1 := wrap_small li hl0 (by omega)
          have w2 := wrap_small ci hc0 (by omega)
          have hbytes : ¬ ((281474976710656 : Int) < ti.bytes * ci) := by
            have : (ti.bytes : Int) * ci ≤ 1048576 * 1048576 := Int.mul_le_mul (by omega) (by omega) hc0 (by omega)
            omega
          have hneg : ¬ (ci < 0) := by omega
          have hneg2 : ¬ (li < 0) := by omega
          have hgt : ¬ (ci < li) := by omega
          have hti' : i = ti := by rw [hti] at hi; exact (Option.some.inj hi).symm
          by_cases h0 : ci.toNat * n = 0
          · have hz0 : (Array.range (ci.toNat * n)).map (zv.cells[· % zv.cells.size]!) = (Array.range (ci.toNat * n)).map ((#[] : Array Value)[· % (#[] : Array Value).size]!) := by simp [h0]
            rw [hz0]
            simp [Instr.makeSlice, und_ok hu, asInt, asIntOf, info_ok hti, w1, w2, hbytes, hneg, hneg2, hgt, tsize_ok hn, h0, newRow]
          · simp [Instr.makeSlice, und_ok hu, asInt, asIntOf, info_ok hti, w1, w2, hbytes, hneg, hneg2, hgt, tsize_ok hn, h0, hrun, newRow]
        · have := Rep.own (M := M) (upd μ id ⟨w.heap.size, 0, n, ci.toNat⟩) id 0 li.toNat ⟨w.heap.size, 0, n, ci.toNat⟩ (by simp [upd]) (by simp; omega)
          simpa using this
      · cases e
    · cases e
  · cases e
end
end Go.Proofs.YtopoaknleakdcaaGreat.Pi
namespace Go.Proofs.YtopoaknleakdcaaGreat.Pi
section
variable {P : Program} {M : Mem} {μ : Mu} {h : Hp} {w : World}

def ORep (M : Mem) (μ : Mu) : Option PV → Option Value → Prop
  | none, none => True
  | some p, some v => Rep M μ p v
  | _, _ => False
theorem evo_ok {t : T PV} {nt : Nat} {a : Act} (ht : TmpsRep M μ t nt a.tmps) {o : Option Operand} {p : Option PV} (e : evo t o = some p) : ORep M μ p (o.map a.eval) := by
  cases o with
  | none => cases e; trivial
  | some o =>
    simp only [evo] at e
    cases hp : evs t o with
    | none => rw [hp] at e; cases e
    | some q => rw [hp] at e; cases e; exact evs_ok ht hp
theorem sliceBound_ok {k : IntKind} {i : Int} {y : Nat} (h0 : 0 ≤ i) (hle : i.toNat ≤ y) (c : BoundsCode) : (Instr.sliceBound (.int k i) y c).run P w = .ok i.toNat w := by
  have : 0 ≤ i ∧ i ≤ (y : Int) := ⟨h0, by omega⟩
  simp [Instr.sliceBound, asIntOf, this]
theorem natOr_ok {d n : Nat} {p : Option PV} {v : Option Value} (e : natOr d p = some n) (hr : ORep M μ p v) : (p = none ∧ v = none ∧ n = d) ∨ ∃ k i, v = some (.int k i) ∧ p.isSome = true ∧ 0 ≤ i ∧ i.toNat = n := by
  cases p with
  | none => cases v with
    | none => cases e; exact .inl ⟨rfl, rfl, rfl⟩
    | some v => exact hr.elim
  | some p => cases v with
    | none => exact hr.elim
    | some v => obtain ⟨k, i, _, rfl, h0, h1⟩ := asNat_ok e hr; exact .inr ⟨k, i, rfl, rfl, h0, h1⟩
theorem bounds_ok {isS : Bool} {len cap l hh m : Nat} {lo hi mx : Option PV} {vlo vhi vmx : Option Value} (rlo : ORep M μ lo vlo) (rhi : ORep M μ hi vhi) (rmx : ORep M μ mx vmx)
    (elo : natOr 0 lo = some l) (ehi : natOr len hi = some hh) (emx : natOr cap mx = some m) (hm : m ≤ cap) (hhm : hh ≤ m) (hl : l ≤ hh) (hmx : mx.isSome = true → hi.isSome = true) :
    (Instr.sliceBounds isS len cap vlo vhi vmx).run P w = .ok (l, hh, m) w := by
  rcases natOr_ok emx rmx with ⟨rfl, rfl, rfl⟩ | ⟨k, i, rfl, hs, h0, rfl⟩
  · rcases natOr_ok ehi rhi with ⟨_, rfl, rfl⟩ | ⟨k', i', rfl, _, h0', rfl⟩
    · rcases natOr_ok elo rlo with ⟨_, rfl, rfl⟩ | ⟨k2, i2, rfl, _, h02, rfl⟩
      · simp only [Instr.sliceBounds, Sem.run_bind, Sem.run_pure, Result.andThen]
      · simp only [Instr.sliceBounds, Sem.run_bind, Sem.run_pure, Result.andThen, sliceBound_ok h02 hl]
    · rcases natOr_ok elo rlo with ⟨_, rfl, rfl⟩ | ⟨k2, i2, rfl, _, h02, rfl⟩
      · simp only [Instr.sliceBounds, Sem.run_bind, Sem.run_pure, Result.andThen, sliceBound_ok h0' hhm]
      · simp only [Instr.sliceBounds, Sem.run_bind, Sem.run_pure, Result.andThen, sliceBound_ok h0' hhm, sliceBound_ok h02 hl]
  · have hhi := hmx hs
    rcases natOr_ok ehi rhi with ⟨rfl, _, _⟩ | ⟨k', i', rfl, _, h0', rfl⟩
    · cases hhi
    · rcases natOr_ok elo rlo with ⟨_, rfl, rfl⟩ | ⟨k2, i2, rfl, _, h02, rfl⟩
      · simp only [Instr.sliceBounds, Sem.run_bind, Sem.run_pure, Result.andThen, sliceBound_ok h0' hhm, sliceBound_ok h0 hm]
      · simp only [Instr.sliceBounds, Sem.run_bind, Sem.run_pure, Result.andThen, sliceBound_ok h0' hhm, sliceBound_ok h0 hm, sliceBound_ok h02 hl]

theorem nbltF {a b : Nat} (e : Nat.blt a b = false) : b ≤ a := by
  by_cases h : a < b
  · have : Nat.blt a b = true := by simpa using h
    rw [this] at e; cases e
  · omega
theorem str_of {l : List UInt8} {s : ByteArray} (e : s.data.toList = l) (μ : Mu) : Rep M μ (.str l) (.string s) := by subst e; exact .str _ s

/-- a part of a list -/
theorem lst_cut {full full' : Bool} {es : List PV} {a : Option Addr} {len cap l hh m n : Nat} (hr : Rep M μ (.lst full es) (.slice a len cap)) (hl : l ≤ hh) (hh' : hh ≤ es.length) (hm : hh ≤ m) (_hmc : m ≤ cap) (hel : elOk n es = true)
    (hf : full' = true → m = hh) : Rep M μ (.lst full' ((es.drop l).take (hh - l))) (.slice (if m = l then a else a.map (·.add (l * n))) (hh - l) (m - l)) := by
  have hlen : ((es.drop l).take (hh - l)).length = hh - l := by simp; omega
  by_cases h0 : hh = l
  · subst h0
    have : (es.drop hh).take (hh - hh) = [] := by simp
    rw [this, Nat.sub_self]
    exact .lst0 _ _ _ _ fun hx => by have := hf hx; omega
  · cases hr with
    | lst0 => simp at hh'; omega
    | lst _ _ _ b off esz _ x hfull hc hs hmem h1 hrep =>
      have hz : esz = n := by
        cases es with
        | nil => simp at hh'; omega
        | cons e es => have := hs 0 e rfl; simp [elOk] at hel; omega
      subst hz
      rw [if_neg (by omega)]
      simp only [Option.map_some, add_none]
      have : Rep M μ (.lst full' ((es.drop l).take (hh - l))) (.slice (some ⟨b, off + l * esz, none⟩) ((es.drop l).take (hh - l)).length (m - l)) := by
        have hget : ∀ (i : Nat) (e : PV), ((es.drop l).take (hh - l))[i]? = some e → es[l + i]? = some e := by
          intro i e he
          rw [List.getElem?_take] at he
          split at he
          · rwa [List.getElem?_drop] at he
          · cases he
        refine .lst _ _ _ _ _ esz _ (fun i j => x (l + i) j) (fun hx => by have := hf hx; omega) (by omega) (fun i e he => hs _ e (hget i e he)) (fun i e j c he hc => ?_) (fun i e j c he hc => h1 _ e j c (hget i e he) hc) (fun i e j c he hc => hrep _ e j c (hget i e he) hc)
        have := hmem _ e j c (hget i e he) hc
        rw [Nat.add_mul] at this
        rw [show off + l * esz + i * esz + j = off + (l * esz + i * esz) + j by omega]
        exact this
      rwa [hlen] at this
theorem lst_recap {full : Bool} {es : List PV} {a : Option Addr} {len cap : Nat} (hr : Rep M μ (.lst full es) (.slice a len cap)) : Rep M μ (.lst true es) (.slice a len len) := by
  cases hr with
  | lst0 => exact .lst0 _ _ _ _ fun _ => rfl
  | lst _ _ _ b off esz _ x hfull hc hs hmem h1 hrep => exact .lst _ _ _ _ _ esz _ x (fun _ => rfl) (Nat.le_refl _) hs hmem h1 hrep

theorem lst_len {full : Bool} {es : List PV} {a : Option Addr} {n c : Nat} (hr : Rep M μ (.lst full es) (.slice a n c)) : es.length = n := by
  cases hr <;> rfl
theorem run_sliceAt {ty el n len cap l hh m : Nat} {a : Option Addr} {vlo vhi vmx : Option Value} (hu : P.underlying ty = some (.slice el)) (hn : tsize P el = some n)
    (hb : (Instr.sliceBounds true len cap vlo vhi vmx).run P w = .ok (l, hh, m) w) :
    (Instr.sliceAt ty (.slice a len cap) vlo vhi vmx).run P w = .ok (.slice (if m = l then a else a.map (·.add (l * n))) (hh - l) (m - l)) w := by
  simp only [Instr.sliceAt, Instr.slice, Sem.run_bind, und_ok hu, Result.andThen, hb, tsize_ok hn, Sem.run_pure]

theorem slice_ok (s : Sim M μ h w) {ty : TypeId} {p : PV} {x : Value} {lo hi mx : Option PV} {vlo vhi vmx : Option Value} (hx : Rep M μ p x) (rlo : ORep M μ lo vlo) (rhi : ORep M μ hi vhi) (rmx : ORep M μ mx vmx) {r : R}
    (e : evSlice P h ty p lo hi mx = some r) : Says P M μ w ((do pure (.value (← Instr.sliceAt ty x vlo vhi vmx)) : Sem Next).run P w) r := by
  unfold evSlice at e
  split at e
  · rename_i l0 hu
    split at e
    · rename_i hh l ehi elo
      replace e := bifT e; obtain ⟨hc, e⟩ := e
      cases e
      simp at hc
      cases hx with
      | str _ sb =>
        cases vmx with
        | some v => exact rmx.elim
        | none =>
          have hsz : sb.size = sb.data.toList.length := by simp
          have hb := bounds_ok (P := P) (w := w) (isS := false) (len := sb.size) (cap := sb.size) rlo rhi (mx := none) (vmx := none) trivial elo (by rw [hsz]; exact ehi) rfl (Nat.le_refl _) (by rw [hsz]; exact hc.1) hc.2 (by intro h; cases h)
          refine says_val s (x := .string (sb.extract l hh)) ?_ (str_of ?_ μ)
          · simp [Instr.sliceAt, Instr.slice, und_ok hu, hb]
          · rw [← ByteArray.toList_eq, ByteArray.toList_eq, ByteArray.data_extract]; simp [List.extract_eq_take_drop]
    · cases e
  · rename_i el p' hu
    split at e
    · cases e
    · rename_i n hn
      split at e
      · split at e
        · rename_i e1 e2 e3
          replace e := bifF e; obtain ⟨hc, e⟩ := e
          cases e
          cases hx
          have hb := bounds_ok (P := P) (w := w) (isS := true) (len := 0) (cap := 0) rlo rhi rmx e1 e2 e3 (Nat.le_refl _) (Nat.le_refl _) (Nat.le_refl _) (by
            intro hs; cases hi with
            | none => simp [hs] at hc
            | some _ => rfl)
          exact says_val s (run_sliceAt (a := none) hu hn hb) (by simpa using Rep.nils (M := M) μ)
        · cases e
      · rename_i full es
        replace e := bifF e; obtain ⟨hel, e⟩ := e
        simp at hel
        split at e
        · rename_i l hh elo ehi
          have hsl : ∃ a cap, x = .slice a es.length cap ∧ es.length ≤ cap ∧ (full = true → cap = es.length) := by
            cases hx with
            | lst0 _ _ a cap hf => exact ⟨a, cap, rfl, by simp, hf⟩
            | lst _ _ _ b off esz cap x hf hc hs hm h1 hr => exact ⟨_, _, rfl, hc, hf⟩
          obtain ⟨a, cap, rfl, hcap, hfull⟩ := hsl
          split at e
          · replace e := bifT e; obtain ⟨hc, e⟩ := e
            cases e
            simp at hc
            cases vmx with
            | some v => exact rmx.elim
            | none =>
              have hb := bounds_ok (P := P) (w := w) (isS := true) (len := es.length) (cap := cap) rlo rhi (mx := none) (vmx := none) trivial elo ehi rfl (Nat.le_refl _) (by omega) hc.2 (by intro h; cases h)
              refine says_val s (run_sliceAt hu hn hb) (lst_cut hx hc.2 hc.1 (by omega) (Nat.le_refl _) hel ?_)
              intro hf
              simp at hf
              have := hfull hf.1
              omega
          · rename_i mp
            split at e
            · rename_i m em
              replace e := bifT e; obtain ⟨hc, e⟩ := e
              cases e
              simp at hc
              obtain ⟨⟨⟨hc1, hc2⟩, hc3⟩, hc4⟩ := hc
              have hb := bounds_ok (P := P) (w := w) (isS := true) (len := es.length) (cap := cap) rlo rhi rmx elo ehi (show natOr cap (some mp) = some m from em) (by omega) hc2 hc3 (fun _ => hc4)
              refine says_val s (run_sliceAt hu hn hb) (lst_cut hx hc3 (by omega) hc2 (by omega) hel ?_)
              intro hf
              simp at hf; omega
            · cases e
        · cases e
      · rename_i j off len
        split at e
        · rename_i es ex fz hb0
          replace e := bifF e; obtain ⟨hel, e⟩ := e
          simp at hel
          split at e
          · rename_i l hh elo ehi
            replace e := bifF e; obtain ⟨hc, e⟩ := e
            simp at hc
            obtain ⟨hc1, hc2⟩ := hc
            cases hx with
            | own _ _ _ _ r hr hcap =>
              obtain ⟨r', hr', arr, ety, h1, h2, h3, h4, h5, h6, h7⟩ := s.blk j _ hb0
              rw [hr] at hr'; cases hr'
              have addr : ∀ m, l < m → off + l < es.length → (if m = l then some (⟨r.b, r.base + off * r.esz, none⟩ : Addr) else (some ⟨r.b, r.base + off * r.esz, none⟩ : Option Addr).map (·.add (l * n))) = some ⟨r.b, r.base + (off + l) * r.esz, none⟩ := by
                intro m hm hlt
                rw [if_neg (by omega)]
                have : n = r.esz := by
                  cases es with
                  | nil => simp at hlt
                  | cons e0 es => have := h6 0 e0 rfl; simp [elOk] at hel; omega
                simp only [Option.map_some, add_none, this, Nat.add_mul]
                congr 2; omega
              split at e
              · cases vmx with
                | some v => exact rmx.elim
                | none =>
                  have hb := bounds_ok (P := P) (w := w) (isS := true) (len := len) (cap := r.cap - off) rlo rhi (mx := none) (vmx := none) trivial elo ehi rfl (Nat.le_refl _) (by omega) hc1 (by intro h; cases h)
                  cases hlt : Nat.blt (off + l) es.length with
                  | true =>
                    rw [hlt] at e; cases e
                    simp at hlt
                    refine says_val s (run_sliceAt hu hn hb) ?_
                    rw [addr _ (by omega) hlt]
                    have := Rep.own (M := M) μ j (off + l) (hh - l) r hr (by omega)
                    rwa [show r.cap - (off + l) = r.cap - off - l by omega] at this
                  | false =>
                    rw [hlt] at e; cases e
                    have hge : es.length ≤ off + l := nbltF hlt
                    refine says_val s (run_sliceAt hu hn hb) ?_
                    rw [show hh - l = 0 by omega]
                    exact .lst0 _ _ _ _ (by intro h; cases h)
              · rename_i mp
                split at e
                · rename_i m em
                  cases hA : (hi.isSome && Nat.ble hh m && ex && Nat.beq (off + m) es.length) with
                  | true =>
                    rw [hA] at e
                    simp at hA
                    obtain ⟨⟨⟨a1, a2⟩, rfl⟩, a4⟩ := hA
                    have hcapE := h4 rfl
                    have hb := bounds_ok (P := P) (w := w) (isS := true) (len := len) (cap := r.cap - off) rlo rhi rmx elo ehi (show natOr (r.cap - off) (some mp) = some m from em) (by omega) a2 hc1 (fun _ => a1)
                    cases hlt : Nat.blt (off + l) es.length with
                    | true =>
                      rw [hlt] at e; cases e
                      simp at hlt
                      refine says_val s (run_sliceAt hu hn hb) ?_
                      rw [addr _ (by omega) hlt]
                      have := Rep.own (M := M) μ j (off + l) (hh - l) r hr (by omega)
                      rwa [show r.cap - (off + l) = m - l by omega] at this
                    | false =>
                      rw [hlt] at e; cases e
                      have hge : es.length ≤ off + l := nbltF hlt
                      refine says_val s (run_sliceAt hu hn hb) ?_
                      rw [show hh - l = 0 by omega, show m - l = 0 by omega]
                      exact .lst0 _ _ _ _ (fun _ => rfl)
                  | false =>
                    rw [hA] at e
                    simp only [cond_false] at e
                    replace e := bifT e; obtain ⟨hB, e⟩ := e
                    simp at hB
                    obtain ⟨b1, rfl⟩ := hB
                    have hb := bounds_ok (P := P) (w := w) (isS := true) (len := len) (cap := r.cap - off) rlo rhi rmx elo ehi (show natOr (r.cap - off) (some mp) = some m from em) (by omega) (Nat.le_refl _) hc1 (fun _ => b1)
                    unfold cutData at e
                    split at e
                    · rename_i f xs ids hp
                      obtain ⟨h', hfr, rfl⟩ := mapOpt e
                      obtain ⟨M', m1, m2, m3, _⟩ := freeze_ok ids s hfr
                      have hq := (pur_ok s ids _ _ _ _ _ hp (Rep.own μ j (off + l) (m - l) r hr (by omega)) (fun _ h => h)).mono m1 (.refl _)
                      have hfin := (lst_recap hq).mono (.refl _) (.mu0 μ)
                      refine ⟨M', μ, w, _, by simp only [Sem.run_bind, run_sliceAt hu hn hb, Result.andThen, Sem.run_pure]; rfl, m2, freeze_grow m1 m3, ?_⟩
                      by_cases hlm : m = l
                      · subst hlm
                        rw [Nat.sub_self] at hfin ⊢
                        have : xs = [] := List.eq_nil_of_length_eq_zero (lst_len hfin)
                        subst this
                        exact .lst0 _ _ _ _ (fun _ => rfl)
                      · rw [addr _ (by omega) (by omega)]
                        exact hfin
                    · cases e
                · cases e
          · cases e
        · cases e
      · cases e
  · cases e
end
end Go.Proofs.YtopoaknleakdcaaGreat.Pi
namespace Go.Proofs.YtopoaknleakdcaaGreat.Pi
section
variable {P : Program} {M : Mem} {μ : Mu} {h : Hp} {w : World}

theorem fieldPlace_ok {b off : Nat} {fd : Field} {n : Nat} (hn : tsize P fd.type = some n) (h0 : n ≠ 0) : (fieldPlace ⟨b, off, none⟩ fd).run P w = .ok ⟨b, off + fd.offset, none⟩ w := by
  simp [fieldPlace, tsize_ok hn, h0, add_none]
theorem fieldAddr_ok (s : Sim M μ h w) {sty : TypeId} {p : PV} {x : Value} {f : Nat} (hx : Rep M μ p x) {r : R} (e : evFieldAddr P h sty p f = some r) :
    Says P M μ w ((do pure (.value (← Instr.fieldAt sty x f)) : Sem Next).run P w) r := by
  unfold evFieldAddr at e
  split at e
  · rename_i fs hu
    split at e
    · rename_i fd hfd
      split at e
      · rename_i n hn
        replace e := bifF e; obtain ⟨h0, e⟩ := e
        have h0' : n ≠ 0 := by intro hc; subst hc; simp at h0
        split at e
        · rename_i j off
          cases e
          cases hx with
          | ptr _ _ _ r hr =>
            refine says_val s (x := .pointer (some ⟨r.b, r.base + off + fd.offset, none⟩)) ?_ ?_
            · simp [Instr.fieldAt, und_ok hu, hfd, Instr.sureAddr, fieldPlace_ok hn h0']
            · rw [Nat.add_assoc]; exact .ptr _ _ _ r hr
        · rename_i j i off
          cases e
          cases hx with
          | ept _ _ _ _ r hr =>
            refine says_val s (x := .pointer (some ⟨r.b, r.base + i * r.esz + off + fd.offset, none⟩)) ?_ ?_
            · simp [Instr.fieldAt, und_ok hu, hfd, Instr.sureAddr, fieldPlace_ok hn h0']
            · rw [Nat.add_assoc (r.base + i * r.esz)]; exact .ept _ _ _ _ r hr
        · rename_i cs
          cases e
          cases hx with
          | view _ _ b off x hm h1 hr =>
            refine says_val s (x := .pointer (some ⟨b, off + fd.offset, none⟩)) ?_ ?_
            · simp [Instr.fieldAt, und_ok hu, hfd, Instr.sureAddr, fieldPlace_ok hn h0']
            · refine .view _ _ _ _ (fun j => x (fd.offset + j)) (fun j c hj => ?_) (fun j c hj => h1 _ c (by simpa using hj)) (fun j c hj => hr _ c (by simpa using hj))
              rw [Nat.add_assoc]; exact hm _ c (by simpa using hj)
        · cases e
      · cases e
    · cases e
  · cases e
theorem field_ok (s : Sim M μ h w) {ty : TypeId} {p : PV} {x : Value} {f : Nat} (hx : Rep M μ p x) {r : R} (e : evField P h ty p f = some r) :
    Says P M μ w ((do pure (.value (← Instr.field ty x f)) : Sem Next).run P w) r := by
  unfold evField at e
  split at e
  · rename_i fs cs hu
    split at e
    · rename_i fd hfd
      obtain ⟨v, hv, rfl⟩ := vl_ok e
      cases hx with
      | agg _ _ vs hl h1 hr =>
        obtain ⟨y, hy, hry, _⟩ := part_ok (P := P) hv (M := M) (μ := μ) (vs := vs) (off := fd.offset) (RepL.drop ⟨by simpa using hl, fun i c v a b => hr i c v a (by simpa using b)⟩ fd.offset) h1 w
        exact says_val s (by simp [Instr.field, und_ok hu, hfd, asAgg, hy]) hry
    · cases e
  · cases e
theorem indexAddr_ok (s : Sim M μ h w) {ty : TypeId} {p q : PV} {x y : Value} (hx : Rep M μ p x) (hy : Rep M μ q y) {r : R} (e : evIndexAddr P h ty p q = some r) :
    Says P M μ w ((do pure (.value (← Instr.indexAt ty x y)) : Sem Next).run P w) r := by
  unfold evIndexAddr at e
  split at e
  · rename_i el k hu hk
    obtain ⟨kk, i, rfl, rfl, hi0, rfl⟩ := asNat_ok hk hy
    split at e
    · rename_i n hn
      split at e
      · rename_i full es
        split at e
        · rename_i e1 he1
          rw [lget_eq] at he1
          replace e := bifT e; obtain ⟨hl, e⟩ := e
          cases e
          simp at hl
          have hi : i.toNat < es.length := (List.getElem?_eq_some_iff.1 he1).1
          cases hx with
          | lst0 => simp at hi
          | lst _ _ _ b off esz cap x hf hc hs hm h1 hr =>
            have hz : esz = n := by rw [← hl]; exact (hs _ _ he1).symm
            subst hz
            refine says_val s (x := .pointer (some ⟨b, off + i.toNat * esz, none⟩)) ?_ ?_
            · have hb : 0 ≤ i ∧ i < (es.length : Int) := ⟨hi0, by omega⟩
              simp [Instr.indexAt, asIntOf, und_ok hu, hb, tsize_ok hn, add_none]
            · exact .view _ _ _ _ (x i.toNat) (fun j c hj => hm _ _ j c he1 hj) (fun j c hj => h1 _ _ j c he1 hj) (fun j c hj => hr _ _ j c he1 hj)
        · cases e
      · rename_i j off len
        replace e := bifT e; obtain ⟨hlt, e⟩ := e
        simp at hlt
        split at e
        · rename_i es ex fz hb0
          split at e
          · rename_i e1 he1
            rw [lget_eq] at he1
            replace e := bifT e; obtain ⟨hl, e⟩ := e
            cases e
            simp at hl
            cases hx with
            | own _ _ _ _ r hr hcap =>
              obtain ⟨r', hr', arr, ety, h1, h2, h3, h4, h5, h6, h7⟩ := s.blk j _ hb0
              rw [hr] at hr'; cases hr'
              have hz : n = r.esz := by rw [← hl]; exact h6 _ _ he1
              refine says_val s (x := .pointer (some ⟨r.b, r.base + off * r.esz + i.toNat * n, none⟩)) ?_ ?_
              · have hb : 0 ≤ i ∧ i < (len : Int) := ⟨hi0, by omega⟩
                simp [Instr.indexAt, asIntOf, und_ok hu, hb, tsize_ok hn, add_none]
              · have := Rep.ept (M := M) μ j (off + i.toNat) 0 r hr
                rw [hz]
                rwa [Nat.add_mul, Nat.add_zero, ← Nat.add_assoc] at this
          · cases e
        · cases e
      · cases e
    · cases e
  · rename_i len el k hu hk
    obtain ⟨kk, i, rfl, rfl, hi0, rfl⟩ := asNat_ok hk hy
    split at e
    · rename_i n hn
      replace e := bifT e; obtain ⟨hlt, e⟩ := e
      simp at hlt
      have hb : 0 ≤ i ∧ i < (len : Int) := ⟨hi0, by omega⟩
      split at e
      · rename_i j off
        cases e
        cases hx with
        | ptr _ _ _ r hr =>
          refine says_val s (x := .pointer (some ⟨r.b, r.base + off + i.toNat * n, none⟩)) ?_ ?_
          · simp [Instr.indexAt, asIntOf, und_ok hu, hb, tsize_ok hn, add_none, Instr.sureAddr]
          · rw [Nat.add_assoc]; exact .ptr _ _ _ r hr
      · rename_i j i' off
        cases e
        cases hx with
        | ept _ _ _ _ r hr =>
          refine says_val s (x := .pointer (some ⟨r.b, r.base + i' * r.esz + off + i.toNat * n, none⟩)) ?_ ?_
          · simp [Instr.indexAt, asIntOf, und_ok hu, hb, tsize_ok hn, add_none, Instr.sureAddr]
          · rw [Nat.add_assoc (r.base + i' * r.esz)]; exact .ept _ _ _ _ r hr
      · rename_i cs
        cases e
        cases hx with
        | view _ _ b off x hm h1 hr =>
          refine says_val s (x := .pointer (some ⟨b, off + i.toNat * n, none⟩)) ?_ ?_
          · simp [Instr.indexAt, asIntOf, und_ok hu, hb, tsize_ok hn, add_none, Instr.sureAddr]
          · refine .view _ _ _ _ (fun j => x (i.toNat * n + j)) (fun j c hj => ?_) (fun j c hj => h1 _ c (by simpa using hj)) (fun j c hj => hr _ c (by simpa using hj))
            rw [Nat.add_assoc]; exact hm _ c (by simpa using hj)
      · cases e
    · cases e
  · cases e
theorem bytes_get (s : ByteArray) (k : Nat) : s[k]? = s.data.toList[k]? := by
  by_cases hk : k < s.size
  · rw [ByteArray.getElem?_lt' s k hk]
    have : k < s.data.toList.length := by simpa using hk
    rw [List.getElem?_eq_getElem this]
    rfl
  · rw [ByteArray.getElem?_ge' s k hk, List.getElem?_eq_none]
    simpa using hk
theorem index_ok (s : Sim M μ h w) {ty : TypeId} {p q : PV} {x y : Value} (hx : Rep M μ p x) (hy : Rep M μ q y) {r : R} (e : evIndex P h ty p q = some r) :
    Says P M μ w ((do pure (.value (← Instr.index ty x y)) : Sem Next).run P w) r := by
  unfold evIndex at e
  split at e
  · rename_i len el cs k hu hk
    obtain ⟨kk, i, rfl, rfl, hi0, rfl⟩ := asNat_ok hk hy
    replace e := bifT e; obtain ⟨hlt, e⟩ := e
    simp at hlt
    split at e
    · rename_i n hn
      obtain ⟨v, hv, rfl⟩ := vl_ok e
      cases hx with
      | agg _ _ vs hl h1 hr =>
        obtain ⟨z, hz, hrz, _⟩ := part_ok (P := P) hv (M := M) (μ := μ) (vs := vs) (off := i.toNat * n) (RepL.drop ⟨by simpa using hl, fun i c v a b => hr i c v a (by simpa using b)⟩ _) h1 w
        have hb : 0 ≤ i ∧ i < (len : Int) := ⟨hi0, by omega⟩
        exact says_val s (by simp [Instr.index, asIntOf, und_ok hu, hb, tsize_ok hn, hz]) hrz
    · cases e
  · rename_i l k hu hk
    obtain ⟨kk, i, rfl, rfl, hi0, rfl⟩ := asNat_ok hk hy
    split at e
    · rename_i b hb
      cases e
      rw [lget_eq] at hb
      cases hx with
      | str _ sb =>
        have hg : sb[i.toNat]? = some b := by rw [bytes_get]; exact hb
        refine says_val s (x := .int .u8 b.toNat) ?_ (.int _ _ _)
        simp [Instr.index, asIntOf, und_ok hu, hi0, hg]
    · cases e
  · cases e
theorem extract_ok (s : Sim M μ h w) {p : PV} {x : Value} {i : Nat} (hx : Rep M μ p x) {r : R} (e : evExtract h p i = some r) :
    Says P M μ w ((do pure (.value (← Instr.extract x i)) : Sem Next).run P w) r := by
  unfold evExtract at e
  split at e
  · rename_i vs
    obtain ⟨v, hv, rfl⟩ := vl_ok e
    rw [lget_eq] at hv
    cases hx with
    | tup _ _ va hl hr =>
      have hi : i < va.size := by rw [← hl]; exact (List.getElem?_eq_some_iff.1 hv).1
      have hg := Array.getElem?_eq_getElem hi
      exact says_val s (x := va[i]) (by simp [Instr.extract, hg]) (hr _ _ _ hv hg)
  · cases e
theorem zeroEl_ok {ty : TypeId} {z : PV} (e : zeroEl P ty = some z) (M : Mem) (μ : Mu) (w : World) : ∃ zv, (zeroValue ty).run P w = .ok zv w ∧ Rep M μ z zv := by
  unfold zeroEl at e
  split at e
  · rename_i i hi
    split at e
    · rename_i zv hz; exact ⟨zv, by simp [zeroValue, typeInfo, hi, hz], ofVal_ok e M μ⟩
    · cases e
  · cases e
theorem pair_ok {a b : PV} {x y : Value} (ha : Rep M μ a x) (hb : Rep M μ b y) : Rep M μ (.tup [a, b]) (.tuple #[x, y]) :=
  .tup _ _ _ rfl fun i c v hc hv => by
    match i with
    | 0 => simp at hc hv; subst hc; subst hv; exact ha
    | 1 => simp at hc hv; subst hc; subst hv; exact hb
    | i + 2 => simp at hc
theorem assert_ok (s : Sim M μ h w) {xty ty : TypeId} {p : PV} {x : Value} {ok : Bool} (hx : Rep M μ p x) {r : R} (e : evAssert P h ty p ok = some r) :
    Says P M μ w ((do pure (.value (← Instr.typeAssert x xty ty ok)) : Sem Next).run P w) r := by
  have holds : ∀ {q : PV} {v : Value}, Rep M μ q v → Rep M μ (asserted ok q) (if ok then .tuple #[v, .bool true] else v) := by
    intro q v hq
    cases ok with
    | true => exact pair_ok hq (.bool _ _)
    | false => exact hq
  have fails : ∀ {z : PV}, ok = true → zeroEl P ty = some z → ∃ zv, (zeroValue ty).run P w = .ok zv w ∧ Rep M μ (.tup [z, .bool false]) (.tuple #[zv, .bool false]) := by
    intro z _ hz
    obtain ⟨zv, h1, h2⟩ := zeroEl_ok hz M μ w
    exact ⟨zv, h1, pair_ok h2 (.bool _ _)⟩
  unfold evAssert at e
  split at e
  · rename_i want hu
    split at e
    · rename_i u a
      split at e
      · rename_i i hi
        cases hx with
        | ifc _ _ _ v hr =>
          split at e
          · rename_i hm
            cases e
            refine says_val s (x := if ok then .tuple #[.iface u v, .bool true] else .iface u v) ?_ (holds (.ifc _ _ _ _ hr))
            simp [Instr.typeAssert, und_ok hu, info_ok hi, hm]
          · rename_i mm hm
            replace e := bifT e; obtain ⟨rfl, e⟩ := e
            split at e
            · rename_i z hz
              cases e
              obtain ⟨zv, h1, h2⟩ := fails rfl hz
              exact says_val s (by simp [Instr.typeAssert, und_ok hu, info_ok hi, hm, h1]) h2
            · cases e
      · cases e
    · replace e := bifT e; obtain ⟨rfl, e⟩ := e
      cases hx
      split at e
      · rename_i z hz
        cases e
        obtain ⟨zv, h1, h2⟩ := fails rfl hz
        exact says_val s (by simp [Instr.typeAssert, und_ok hu, h1]) h2
      · cases e
    · cases e
  · rename_i d hnot hu
    have hni : ∀ ms, d ≠ .interface ms := fun ms hc => hnot ms hc
    split at e
    · rename_i u a
      cases hx with
      | ifc _ _ _ v hr =>
        cases hut : Nat.beq u ty with
        | true =>
          rw [hut] at e; cases e
          have hut' : u = ty := by simpa using hut
          subst hut'
          refine says_val s (x := if ok then .tuple #[v, .bool true] else v) ?_ (holds hr)
          cases d <;> first | exact absurd rfl (hni _) | simp [Instr.typeAssert, und_ok hu]
        | false =>
          rw [hut] at e
          simp only [cond_false] at e
          have hut' : u ≠ ty := by intro hc; rw [nbeqT hc] at hut; cases hut
          replace e := bifT e; obtain ⟨rfl, e⟩ := e
          split at e
          · rename_i z hz
            cases e
            obtain ⟨zv, h1, h2⟩ := fails rfl hz
            refine says_val s (x := .tuple #[zv, .bool false]) ?_ h2
            cases d <;> first | exact absurd rfl (hni _) | simp [Instr.typeAssert, und_ok hu, hut', h1]
          · cases e
    · replace e := bifT e; obtain ⟨rfl, e⟩ := e
      cases hx
      split at e
      · rename_i z hz
        cases e
        obtain ⟨zv, h1, h2⟩ := fails rfl hz
        refine says_val s (x := .tuple #[zv, .bool false]) ?_ h2
        cases d <;> first | exact absurd rfl (hni _) | simp [Instr.typeAssert, und_ok hu, h1]
      · cases e
    · cases e
  · cases e
theorem ifc_ok (s : Sim M μ h w) {ty : TypeId} {p : PV} {x : Value} (hx : Rep M μ p x) {r : R} (e : evIfc P h ty p = some r) :
    Says P M μ w ((do pure (.value (← Instr.makeInterface ty x)) : Sem Next).run P w) r := by
  unfold evIfc at e
  split at e
  · cases e
  · rename_i d hnot hu
    cases e
    have hni : ∀ ms, d ≠ .interface ms := fun ms hc => hnot ms hc
    refine says_val s (x := .iface ty x) ?_ (.ifc _ _ _ _ hx)
    cases d <;> first | exact absurd rfl (hni _) | simp [Instr.makeInterface, und_ok hu]
  · cases e
theorem convert_ok (s : Sim M μ h w) {src dst : TypeId} {p : PV} {x : Value} (hx : Rep M μ p x) {r : R} (e : evConvert P h src dst p = some r) :
    Says P M μ w ((do pure (.value (← convert src dst x)) : Sem Next).run P w) r := by
  unfold evConvert at e
  split at e
  · rename_i k0 n d k h1 h2
    cases e
    cases hx
    refine says_val s (x := .int k (k.wrap n)) ?_ (.int _ _ _)
    simp [convert, und_ok h1, und_ok h2, Conv.intToInt]
  · rename_i l h1 h2
    cases e
    cases hx with
    | str _ sb =>
      refine says_val s (x := .string sb) ?_ (.str _ _)
      simp [convert, und_ok h1, und_ok h2]
  · cases e
end
end Go.Proofs.YtopoaknleakdcaaGreat.Pi
namespace Go.Proofs.YtopoaknleakdcaaGreat.Pi
section
variable {P : Program} {M : Mem} {μ : Mu} {h : Hp} {w : World}

theorem aggs_of {cs : List PV} {x : Value} (hx : Rep M μ (.agg cs) x) : ∃ vs, x = .agg vs ∧ RepL M μ cs vs.toList ∧ ∀ (i : Nat) (v : Value), vs[i]? = some v → v.oneCell' = true := by
  cases hx with
  | agg _ _ vs hl h1 hr => exact ⟨vs, rfl, ⟨by simpa using hl, fun i c v a b => hr i c v a (by simpa using b)⟩, h1⟩
theorem fieldsOf_eq {t : TypeId} {fs : Array Field} (h : P.underlying t = some (.struct fs)) : P.fieldsOf t = fs := by simp [Program.fieldsOf, h]
theorem strbeq (s1 s2 : ByteArray) : (s1 == s2) = (s1.data.toList == s2.data.toList) := by rw [beq_toListBytes, ByteArray.toList_eq, ByteArray.toList_eq]

/-- '==' of arrays, element by element -/
def eqElems (d : Nat) (e : TypeId) (n : Nat) (xs ys : Array Value) : List Nat → Sem Bool
  | [] => pure true
  | i :: l => do
    let a ← Go.part e xs (i * n)
    let b ← Go.part e ys (i * n)
    let r ← Op.equalIn d e a b
    if (!r) = true then pure false else eqElems d e n xs ys l
theorem run_equalIn_array (d : Nat) (t e : TypeId) (len n : Nat) (xs ys : Array Value) (ht : P.underlying t = some (.array len e)) (hn : tsize P e = some n) :
    (Op.equalIn (d + 1) t (.agg xs) (.agg ys)).run P w = (eqElems d e n xs ys (List.range' 0 len)).run P w := by
  simp only [Op.equalIn, Sem.run_bind, und_ok ht, Result.andThen, tsize_ok hn]
  rw [Std.Legacy.Range.forIn_eq_forIn_range']
  simp only [Std.Legacy.Range.size, Nat.sub_zero, Nat.add_sub_cancel, Nat.div_one]
  generalize List.range' 0 len = l
  induction l generalizing w with
  | nil => simp [eqElems]
  | cons i l ih =>
    simp only [List.forIn_cons, eqElems, Sem.run_bind, Sem.run_ite]
    generalize (Go.part e xs (i * n)).run P w = r1
    cases r1 with
    | ok a w1 =>
      simp only [Result.andThen_ok]
      generalize (Go.part e ys (i * n)).run P w1 = r2
      cases r2 with
      | ok b w2 =>
        simp only [Result.andThen_ok]
        generalize (Op.equalIn d e a b).run P w2 = r3
        cases r3 with
        | ok r w3 =>
          cases r
          · simp only [Result.andThen_ok, Bool.not_false, if_true, Sem.run_pure]
          · simp only [Result.andThen_ok, Bool.not_true, Bool.false_eq_true, if_false, Sem.run_pure]
            exact ih
        | halt x w3 => simp [Result.andThen]
      | halt x w2 => simp [Result.andThen]
    | halt x w1 => simp [Result.andThen]

def OneAll (vs : Array Value) : Prop := ∀ (i : Nat) (v : Value), vs[i]? = some v → v.oneCell' = true
set_option maxHeartbeats 4000000 in
theorem peq_ok : ∀ (d : Nat),
    (∀ (t : TypeId) (p q : PV) (b : Bool) (x y : Value) (D : Nat), peq P d t p q = some b → Rep M μ p x → Rep M μ q y → d ≤ D → (Op.equalIn D t x y).run P w = .ok b w) ∧
    (∀ (fs : List Field) (a c : List PV) (r : Bool) (xs ys : Array Value) (D : Nat), peqs P d fs a c = some r → RepL M μ a xs.toList → RepL M μ c ys.toList →
      OneAll xs → OneAll ys → d ≤ D → (Op.eqFields D xs ys fs).run P w = .ok r w) ∧
    (∀ (n i z : Nat) (e : TypeId) (a c : List PV) (r : Bool) (xs ys : Array Value) (D : Nat), peqa P d n e a c = some r → tsize P e = some z → RepL M μ a (xs.toList.drop (i * z)) → RepL M μ c (ys.toList.drop (i * z)) →
      OneAll xs → OneAll ys → d ≤ D → (eqElems D e z xs ys (List.range' i n)).run P w = .ok r w) := by
  intro d
  induction d with
  | zero => exact ⟨fun t p q b x y D e => by simp [peq] at e, fun fs a c r xs ys D e => by simp [peqs] at e, fun n i z t a c r xs ys D e => by simp [peqa] at e⟩
  | succ d ih =>
    refine ⟨?_, ?_, ?_⟩
    · intro t p q b x y D e hx hy hD
      obtain ⟨D, rfl⟩ : ∃ D', D = D' + 1 := ⟨D - 1, by omega⟩
      have hD' : d ≤ D := by omega
      unfold peq at e
      split at e
      · rename_i hu
        split at e
        · cases e; cases hx; cases hy; simp [Op.equalIn, und_ok hu]
        · cases e
      · rename_i k0 hu
        split at e
        · rename_i k a k' c
          replace e := bifT e; obtain ⟨hk, e⟩ := e
          have : k = k' := by simpa using hk
          subst this
          cases e; cases hx; cases hy; simp [Op.equalIn, und_ok hu]
        · cases e
      · rename_i hu
        split at e
        · cases e
          cases hx with
          | str _ s1 => cases hy with
            | str _ s2 => simp [Op.equalIn, und_ok hu, strbeq]
        · cases e
      · rename_i el hu
        split at e <;> (try (cases e; done)) <;> (cases e; cases hx; cases hy; simp [Op.equalIn, und_ok hu])
      · rename_i el hu
        split at e
        · cases e; cases hx; cases hy; simp [Op.equalIn, und_ok hu]
        · cases e; cases hx; cases hy; simp [Op.equalIn, und_ok hu]
        · cases e; cases hx; cases hy; simp [Op.equalIn, und_ok hu]
        · cases e
      · rename_i a1 a2 a3 hu
        split at e <;> (try (cases e; done)) <;> (cases e; cases hx; cases hy; simp [Op.equalIn, und_ok hu])
      · rename_i ms hu
        split at e
        · cases e; cases hx; cases hy; simp [Op.equalIn, und_ok hu]
        · cases e; cases hx; cases hy; simp [Op.equalIn, und_ok hu]
        · cases e; cases hx; cases hy; simp [Op.equalIn, und_ok hu]
        · rename_i t1 a t2 c
          cases hx with
          | ifc _ _ _ v1 hr1 => cases hy with
            | ifc _ _ _ v2 hr2 =>
              cases ht : Nat.beq t1 t2 with
              | false =>
                rw [ht] at e; cases e
                have : t1 ≠ t2 := by intro hc; rw [nbeqT hc] at ht; cases ht
                simp [Op.equalIn, und_ok hu, this]
              | true =>
                rw [ht] at e
                simp only [cond_true] at e
                have : t1 = t2 := by simpa using ht
                subst this
                split at e
                · rename_i i hi
                  replace e := bifT e; obtain ⟨hcmp, e⟩ := e
                  have := ih.1 t1 a c b v1 v2 D e hr1 hr2 hD'
                  simp [Op.equalIn, und_ok hu, info_ok hi, hcmp, this]
                · cases e
        · cases e
      · rename_i fs hu
        split at e
        · rename_i a c
          replace e := bifF e; obtain ⟨hp, e⟩ := e
          obtain ⟨xs, rfl, hra, h1⟩ := aggs_of hx
          obtain ⟨ys, rfl, hrc, h2⟩ := aggs_of hy
          have hu' : P.underlying t = some (.struct (P.fieldsOf t)) := by rw [fieldsOf_eq hu]; exact hu
          rw [run_equalIn_struct w D t xs ys hu' hp, fieldsOf_eq hu]
          exact ih.2.1 fs.toList a c b xs ys D e hra hrc h1 h2 hD'
        · cases e
      · rename_i n el hu
        split at e
        · rename_i a c
          obtain ⟨xs, rfl, hra, h1⟩ := aggs_of hx
          obtain ⟨ys, rfl, hrc, h2⟩ := aggs_of hy
          replace e := bifT e; obtain ⟨hz, e⟩ := e
          obtain ⟨z, hz⟩ := Option.isSome_iff_exists.1 hz
          rw [run_equalIn_array D t el n z xs ys hu hz]
          exact ih.2.2 n 0 z el a c b xs ys D e hz (by simpa using hra) (by simpa using hrc) h1 h2 hD'
        · cases e
      · cases e
    · intro fs a c r xs ys D e hra hrc h1 h2 hD
      have hD' : d ≤ D := by omega
      cases fs with
      | nil => simp [peqs] at e; subst e; simp [Op.eqFields]
      | cons f fs =>
        unfold peqs at e
        cases hn : (f.name == "_") with
        | true =>
          rw [hn] at e
          simp only [cond_true] at e
          have hn' : f.name = "_" := by simpa using hn
          have := ih.2.1 fs a c r xs ys D e hra hrc h1 h2 hD'
          simp [Op.eqFields, hn', this]
        | false =>
          rw [hn] at e
          simp only [cond_false] at e
          have hn' : f.name ≠ "_" := by intro hc; rw [hc] at hn; simp at hn
          split at e
          · rename_i x y hpx hpy
            obtain ⟨vx, hvx, hrx, _⟩ := part_ok (P := P) hpx (M := M) (μ := μ) (vs := xs) (off := f.offset) (hra.drop _) h1 w
            obtain ⟨vy, hvy, hry, _⟩ := part_ok (P := P) hpy (M := M) (μ := μ) (vs := ys) (off := f.offset) (hrc.drop _) h2 w
            split at e
            · rename_i ht
              have k1 := ih.1 f.type x y true vx vy D ht hrx hry hD'
              have k2 := ih.2.1 fs a c r xs ys D e hra hrc h1 h2 hD'
              simp [Op.eqFields, hn', hvx, hvy, k1, k2]
            · rename_i o hne
              cases hq : peq P d f.type x y with
              | none => rw [hq] at e; cases e
              | some b =>
                rw [hq] at e; cases e
                have k1 := ih.1 f.type x y r vx vy D hq hrx hry hD'
                cases r with
                | true => exact absurd hq hne
                | false => simp [Op.eqFields, hn', hvx, hvy, k1]
          · cases e
    · intro n i z el a c r xs ys D e hz hra hrc h1 h2 hD
      have hD' : d ≤ D := by omega
      cases n with
      | zero => simp [peqa] at e; subst e; simp [eqElems]
      | succ n =>
        unfold peqa at e
        rw [hz] at e
        split at e
        · rename_i s x y hs hpx hpy
          cases hs
          obtain ⟨vx, hvx, hrx, _⟩ := part_ok (P := P) hpx (M := M) (μ := μ) (vs := xs) (off := i * z) hra h1 w
          obtain ⟨vy, hvy, hry, _⟩ := part_ok (P := P) hpy (M := M) (μ := μ) (vs := ys) (off := i * z) hrc h2 w
          have hra' : RepL M μ (a.drop z) (xs.toList.drop ((i + 1) * z)) := by have := hra.drop z; rwa [List.drop_drop, ← Nat.succ_mul] at this
          have hrc' : RepL M μ (c.drop z) (ys.toList.drop ((i + 1) * z)) := by have := hrc.drop z; rwa [List.drop_drop, ← Nat.succ_mul] at this
          rw [List.range'_succ]
          split at e
          · rename_i ht
            have k1 := ih.1 el x y true vx vy D ht hrx hry hD'
            have k2 := ih.2.2 n (i + 1) z el _ _ r xs ys D e hz hra' hrc' h1 h2 hD'
            simp [eqElems, hvx, hvy, k1, k2]
          · rename_i o hne
            cases hq : peq P d el x y with
            | none => rw [hq] at e; cases e
            | some b =>
              rw [hq] at e; cases e
              have k1 := ih.1 el x y r vx vy D hq hrx hry hD'
              cases r with
              | true => exact absurd hq hne
              | false => simp [eqElems, hvx, hvy, k1]
        · cases e
end
end Go.Proofs.YtopoaknleakdcaaGreat.Pi
namespace Go.Proofs.YtopoaknleakdcaaGreat.Pi
section
variable {P : Program} {M : Mem} {μ : Mu} {h : Hp} {w : World}

def num : Value → Nat
  | .int _ _ => 1
  | .float _ _ => 2
  | .complex _ _ _ => 3
  | .string _ => 4
  | _ => 0
def pnum : PV → Nat
  | .int _ _ => 1
  | .str _ => 4
  | _ => 0
theorem rep_num {p : PV} {x : Value} (hx : Rep M μ p x) : num x = pnum p := by cases hx <;> rfl
theorem binOp_eql' (t : TypeId) (x y : Value) (hn : ¬ (num x = num y ∧ num x ≠ 0)) : binOp .eql t x y = (do pure (.bool (← Op.equal t x y))) := by
  cases x <;> cases y <;> first | rfl | (simp [num] at hn)
theorem binOp_neq' (t : TypeId) (x y : Value) (hn : ¬ (num x = num y ∧ num x ≠ 0)) : binOp .neq t x y = (do pure (.bool (!(← Op.equal t x y)))) := by
  cases x <;> cases y <;> first | rfl | (simp [num] at hn)
theorem run_binOp_int {op : BinOp} {t : TypeId} {k k' : IntKind} {a b : Int} {v : PV} (e : (match op with
    | .shl | .shr => pshift op k a b
    | _ => bif k == k' then pint op k a b else none) = some v) : ∃ z, (binOp op t (.int k a) (.int k' b)).run P w = .ok z w ∧ Rep M μ v z := by
  have sh : ∀ op : BinOp, (op = .shl ∨ op = .shr) → pshift op k a b = some v → ∃ z, (Op.shift op k a k' b).run P w = .ok z w ∧ Rep M μ v z := by
    intro op hop e
    unfold pshift at e
    replace e := bifF e; obtain ⟨h0, e⟩ := e
    have h0' : ¬ (b < 0) := by simpa using h0
    rcases hop with rfl | rfl
    · cases e; exact ⟨.int k (k.wrap (a * 2 ^ (min b.toNat k.bits))), by simp only [Op.shift, if_neg h0']; rfl, .int _ _ _⟩
    · cases e; exact ⟨.int k (a.fdiv (2 ^ (min b.toNat k.bits))), by simp only [Op.shift, if_neg h0']; rfl, .int _ _ _⟩
  have co : ∀ op : BinOp, op ≠ .shl → op ≠ .shr → (bif k == k' then pint op k a b else none) = some v → k = k' ∧ pint op k a b = some v := by
    intro op _ _ e
    replace e := bifT e
    exact ⟨by simpa using e.1, e.2⟩
  cases op with
  | shl => exact sh _ (.inl rfl) e
  | shr => exact sh _ (.inr rfl) e
  | add => obtain ⟨rfl, e2⟩ := co .add (by decide) (by decide) e; clear e; cases e2; exact ⟨.int k (k.wrap (a + b)), by simp only [binOp, ne_eq, not_true_eq_false, if_false]; rfl, .int _ _ _⟩
  | sub => obtain ⟨rfl, e2⟩ := co .sub (by decide) (by decide) e; clear e; cases e2; exact ⟨.int k (k.wrap (a - b)), by simp only [binOp, ne_eq, not_true_eq_false, if_false]; rfl, .int _ _ _⟩
  | mul => obtain ⟨rfl, e2⟩ := co .mul (by decide) (by decide) e; clear e; cases e2; exact ⟨.int k (k.wrap (a * b)), by simp only [binOp, ne_eq, not_true_eq_false, if_false]; rfl, .int _ _ _⟩
  | quo =>
    obtain ⟨rfl, e2⟩ := co .quo (by decide) (by decide) e
    have e' := bifF e2
    have hb : b ≠ 0 := by intro hc; have := e'.1; subst hc; simp at this
    have := e'.2; cases this
    exact ⟨.int k (k.wrap (a.tdiv b)), by simp only [binOp, ne_eq, not_true_eq_false, if_false, Op.intDiv, if_neg hb]; rfl, .int _ _ _⟩
  | rem =>
    obtain ⟨rfl, e2⟩ := co .rem (by decide) (by decide) e
    have e' := bifF e2
    have hb : b ≠ 0 := by intro hc; have := e'.1; subst hc; simp at this
    have := e'.2; cases this
    exact ⟨.int k (a.tmod b), by simp only [binOp, ne_eq, not_true_eq_false, if_false, Op.intDiv, if_neg hb]; rfl, .int _ _ _⟩
  | and => obtain ⟨rfl, e2⟩ := co .and (by decide) (by decide) e; clear e; cases e2; exact ⟨.int k (k.wrap (BitVec.ofInt k.bits a &&& BitVec.ofInt k.bits b).toNat), by simp only [binOp, ne_eq, not_true_eq_false, if_false]; rfl, .int _ _ _⟩
  | or => obtain ⟨rfl, e2⟩ := co .or (by decide) (by decide) e; clear e; cases e2; exact ⟨.int k (k.wrap (BitVec.ofInt k.bits a ||| BitVec.ofInt k.bits b).toNat), by simp only [binOp, ne_eq, not_true_eq_false, if_false]; rfl, .int _ _ _⟩
  | xor => obtain ⟨rfl, e2⟩ := co .xor (by decide) (by decide) e; clear e; cases e2; exact ⟨.int k (k.wrap (BitVec.ofInt k.bits a ^^^ BitVec.ofInt k.bits b).toNat), by simp only [binOp, ne_eq, not_true_eq_false, if_false]; rfl, .int _ _ _⟩
  | andNot => obtain ⟨rfl, e2⟩ := co .andNot (by decide) (by decide) e; clear e; cases e2
  | eql => obtain ⟨rfl, e2⟩ := co .eql (by decide) (by decide) e; clear e; cases e2; exact ⟨.bool (a == b), by simp only [binOp, ne_eq, not_true_eq_false, if_false]; rfl, .bool _ _⟩
  | neq => obtain ⟨rfl, e2⟩ := co .neq (by decide) (by decide) e; clear e; cases e2; exact ⟨.bool (a != b), by simp only [binOp, ne_eq, not_true_eq_false, if_false]; rfl, .bool _ _⟩
  | lss => obtain ⟨rfl, e2⟩ := co .lss (by decide) (by decide) e; clear e; cases e2; exact ⟨.bool (decide (a < b)), by simp only [binOp, ne_eq, not_true_eq_false, if_false]; rfl, .bool _ _⟩
  | leq => obtain ⟨rfl, e2⟩ := co .leq (by decide) (by decide) e; clear e; cases e2; exact ⟨.bool (decide (a ≤ b)), by simp only [binOp, ne_eq, not_true_eq_false, if_false]; rfl, .bool _ _⟩
  | gtr => obtain ⟨rfl, e2⟩ := co .gtr (by decide) (by decide) e; clear e; cases e2; exact ⟨.bool (decide (a > b)), by simp only [binOp, ne_eq, not_true_eq_false, if_false]; rfl, .bool _ _⟩
  | geq => obtain ⟨rfl, e2⟩ := co .geq (by decide) (by decide) e; clear e; cases e2; exact ⟨.bool (decide (a ≥ b)), by simp only [binOp, ne_eq, not_true_eq_false, if_false]; rfl, .bool _ _⟩
theorem run_binOp_str {op : BinOp} {t : TypeId} {a b : List UInt8} {x y : ByteArray} {v : PV} (ha : x.data.toList = a) (hb : y.data.toList = b) (e : pstr op a b = some v) :
    ∃ z, (binOp op t (.string x) (.string y)).run P w = .ok z w ∧ Rep M μ v z := by
  have ex : x.toList = a := by rw [ByteArray.toList_eq, ha]
  have ey : y.toList = b := by rw [ByteArray.toList_eq, hb]
  unfold pstr at e
  cases op with
  | add =>
    have e' := bifT e
    obtain ⟨hl, e2⟩ := e'
    cases e2
    refine ⟨.string (x ++ y), ?_, str_of (by rw [ByteArray.data_append]; simp [ha, hb]) μ⟩
    have hs : ¬ (((x.size + y.size : Nat) : Int) > IntKind.i64.max) := by
      have h1 : x.size = a.length := by rw [← ha]; simp
      have h2 : y.size = b.length := by rw [← hb]; simp
      have h3 : IntKind.i64.max = 9223372036854775807 := by decide
      have h4 : a.length + b.length ≤ 1000000000 := by simpa using hl
      rw [h3]; omega
    show (Op.stringOp .add x y).run P w = _
    simp only [Op.stringOp]
    rw [if_neg hs]
    rfl
  | eql => cases e; exact ⟨.bool (a == b), by simp only [binOp, Op.stringOp, ex, ey]; rfl, .bool _ _⟩
  | neq => cases e; exact ⟨.bool (!(a == b)), by simp only [binOp, Op.stringOp, ex, ey]; rfl, .bool _ _⟩
  | lss => cases e; exact ⟨.bool (Op.bytesLess a b), by simp only [binOp, Op.stringOp, ex, ey]; rfl, .bool _ _⟩
  | leq => cases e; exact ⟨.bool (Op.bytesLess a b || a == b), by simp only [binOp, Op.stringOp, ex, ey]; rfl, .bool _ _⟩
  | gtr => cases e; exact ⟨.bool (!(Op.bytesLess a b || a == b)), by simp only [binOp, Op.stringOp, ex, ey]; rfl, .bool _ _⟩
  | geq => cases e; exact ⟨.bool (!Op.bytesLess a b), by simp only [binOp, Op.stringOp, ex, ey]; rfl, .bool _ _⟩
  | sub => cases e
  | mul => cases e
  | quo => cases e
  | rem => cases e
  | and => cases e
  | or => cases e
  | xor => cases e
  | shl => cases e
  | shr => cases e
  | andNot => cases e
theorem pbin_ok {op : BinOp} {ty : TypeId} {p q v : PV} {x y : Value} (e : pbin P op ty p q = some v) (hx : Rep M μ p x) (hy : Rep M μ q y) :
    ∃ z, (binOp op ty x y).run P w = .ok z w ∧ Rep M μ v z := by
  unfold pbin at e
  split at e
  · cases hx; cases hy; exact run_binOp_int e
  · cases hx; cases hy; exact run_binOp_str rfl rfl e
  · rename_i n1 n2
    have hn : ¬ (num x = num y ∧ num x ≠ 0) := by
      rw [rep_num hx, rep_num hy]
      rintro ⟨h1, h2⟩
      cases p <;> (try (exact h2 rfl)) <;> cases q <;> first
        | (simp [pnum] at h1; done)
        | exact n1 _ _ _ _ rfl rfl
        | exact n2 _ _ rfl rfl
    split at e
    · obtain ⟨b, hb, rfl⟩ := mapOpt e
      have := (peq_ok (P := P) (w := w) (M := M) (μ := μ) eqDepth).1 ty p q b x y 10000 hb hx hy (by decide)
      refine ⟨.bool b, ?_, .bool _ _⟩
      rw [binOp_eql' ty x y hn]
      simp [Op.equal, Op.maxDepth, this]
    · obtain ⟨b, hb, rfl⟩ := mapOpt e
      have := (peq_ok (P := P) (w := w) (M := M) (μ := μ) eqDepth).1 ty p q b x y 10000 hb hx hy (by decide)
      refine ⟨.bool (!b), ?_, .bool _ _⟩
      rw [binOp_neq' ty x y hn]
      simp [Op.equal, Op.maxDepth, this]
    · cases e
theorem guard_plain (op : BinOp) (t : TypeId) (x y : Operand) (a b : Value) (h1 : ¬ (a = .nilIface ∧ b = .nilIface)) (h2 : ∀ u v, ¬ (a = .agg u ∧ b = .agg v)) : (eqGuard op t x y a b).run P w = .ok () w := by
  cases op <;> simp [eqGuard] <;> (cases a <;> cases b <;> first | rfl | exact absurd ⟨rfl, rfl⟩ h1 | exact absurd ⟨rfl, rfl⟩ (h2 _ _))
theorem guard_nil (op : BinOp) (t : TypeId) (x y : Operand) (hc : (isConstO x || isConstO y) = true) : (eqGuard op t x y .nilIface .nilIface).run P w = .ok () w := by
  cases x <;> cases y <;> first | (simp [isConstO] at hc; done) | (cases op <;> simp [eqGuard])
theorem bin_ok (s : Sim M μ h w) {op : BinOp} {ty : TypeId} {x y : Operand} {p q : PV} {vx vy : Value} (hx : Rep M μ p vx) (hy : Rep M μ q vy) {r : R} (e : evBin P h op ty x y p q = some r) :
    Says P M μ w ((do pure (.value (← (do eqGuard op ty x y vx vy; binOp op ty vx vy))) : Sem Next).run P w) r := by
  unfold evBin at e
  split at e
  · replace e := bifT e; obtain ⟨hc, e⟩ := e
    obtain ⟨v, hv, rfl⟩ := vl_ok e
    obtain ⟨z, hz, hrz⟩ := pbin_ok (w := w) hv hx hy
    cases hx; cases hy
    exact says_val s (by simp [guard_nil op ty x y hc, hz]) hrz
  · rename_i cs ds
    replace e := bifF e; obtain ⟨hc, e⟩ := e
    obtain ⟨v, hv, rfl⟩ := vl_ok e
    obtain ⟨z, hz, hrz⟩ := pbin_ok (w := w) hv hx hy
    obtain ⟨xs, rfl, _⟩ := aggs_of hx
    obtain ⟨ys, rfl, _⟩ := aggs_of hy
    exact says_val s (by simp [run_eqGuard_agg w op ty x y xs ys hc, hz]) hrz
  · rename_i n1 n2
    obtain ⟨v, hv, rfl⟩ := vl_ok e
    obtain ⟨z, hz, hrz⟩ := pbin_ok (w := w) hv hx hy
    have g := guard_plain (P := P) (w := w) op ty x y vx vy (by
      rintro ⟨rfl, rfl⟩; cases hx; cases hy; exact n1 rfl rfl) (by
      rintro u v ⟨rfl, rfl⟩; cases hx; cases hy; exact n2 _ _ rfl rfl)
    exact says_val s (by simp [g, hz]) hrz
theorem un_ok (s : Sim M μ h w) {op : UnOp} {p : PV} {x : Value} (hx : Rep M μ p x) {r : R} (e : vl (pun op p) h = some r) :
    Says P M μ w ((do pure (.value (← Op.unary op x)) : Sem Next).run P w) r := by
  obtain ⟨v, hv, rfl⟩ := vl_ok e
  unfold pun at hv
  split at hv
  · cases hx
    split at hv
    · cases hv; exact says_val s (x := .bool _) (by simp [Op.unary]) (.bool _ _)
    · cases hv
  · cases hx
    split at hv
    · cases hv; exact says_val s (x := .int _ _) (by simp [Op.unary, Op.intArith]) (.int _ _ _)
    · cases hv
  · cases hv
end
end Go.Proofs.YtopoaknleakdcaaGreat.Pi
namespace Go.Proofs.YtopoaknleakdcaaGreat.Pi
section
variable {P : Program} {M : Mem} {μ : Mu} {h : Hp} {w : World}

theorem kceq_ok {d : TypeDesc} {p q : PV} {b : Bool} {x y : Value} (e : kceq d p q = some b) (hx : Rep M μ p x) (hy : Rep M μ q y) :
    Instr.sameNow d x y = some b ∧ (b = true → Instr.sameBits 10000 y x = true) := by
  unfold kceq at e
  split at e
  · cases e; cases hx; cases hy
    rename_i a c
    exact ⟨rfl, fun hb => by have : a = c := by simpa using hb
                             subst this; simp [Instr.sameBits]⟩
  · rename_i k a k' c
    have e' := bifT e
    have hk : k = k' := by simpa using e'.1
    subst hk
    cases e'.2; cases hx; cases hy
    exact ⟨by simp [Instr.sameNow], fun hb => by have : a = c := by simpa using hb
                                                 subst this; simp [Instr.sameBits]⟩
  · cases e
    cases hx with
    | str _ s1 => cases hy with
      | str _ s2 =>
        refine ⟨by simp [Instr.sameNow, strbeq], fun hb => ?_⟩
        have h1 : s1.data.toList = s2.data.toList := by simpa using hb
        have : s1 = s2 := ByteArray.ext (Array.ext' h1)
        subst this; rw [← strbeq] at hb; simpa [Instr.sameBits] using hb
  · cases e
def EntsRep (M : Mem) (μ : Mu) (es : List (PV × PV)) (ents : List MapEntry) : Prop :=
  ents.length = es.length ∧ ∀ (i : Nat) (k v : PV) (e : MapEntry), es[i]? = some (k, v) → ents[i]? = some e → Rep M μ k e.key ∧ Rep M μ v e.val
theorem EntsRep.tail {a : PV × PV} {es : List (PV × PV)} {b : MapEntry} {ents : List MapEntry} (hr : EntsRep M μ (a :: es) (b :: ents)) : EntsRep M μ es ents :=
  ⟨by simpa using hr.1, fun i k v e h1 h2 => hr.2 (i + 1) k v e (by simpa using h1) (by simpa using h2)⟩
theorem mfind_ok {d : TypeDesc} {k : PV} {kv : Value} (hk : Rep M μ k kv) : ∀ {es : List (PV × PV)} {ents : List MapEntry} {r : Option PV} (n : Nat), EntsRep M μ es ents → mfind d es k = some r →
    ∃ o, Instr.findNow d kv ents n = some o ∧ (match r, o with
      | none, none => True
      | some v, some (_, x) => Rep M μ v x
      | _, _ => False)
  | [], ents, r, n, hr, e => by
    cases e
    cases ents with
    | nil => exact ⟨none, rfl, trivial⟩
    | cons _ _ => simp [EntsRep] at hr
  | (k1, v1) :: es, ents, r, n, hr, e => by
    cases ents with
    | nil => simp [EntsRep] at hr
    | cons b ents =>
      obtain ⟨hk1, hv1⟩ := hr.2 0 k1 v1 b rfl rfl
      unfold mfind at e
      split at e
      · rename_i hc
        cases e
        have := (kceq_ok hc hk hk1).1
        exact ⟨some (n, b.val), by simp [Instr.findNow, this], hv1⟩
      · rename_i hc
        have h0 := (kceq_ok hc hk hk1).1
        obtain ⟨o, h1, h2⟩ := mfind_ok hk (n + 1) hr.tail e
        exact ⟨o, by simp [Instr.findNow, h0, h1], h2⟩
      · cases e
theorem checkKey_ok {kt : TypeId} {d : TypeDesc} (hu : P.underlying kt = some d) (hd : keyDesc d = true) (em : Bool) (v : Value) : (Instr.checkKey em 10000 kt v).run P w = .ok () w := by
  rw [show (10000 : Nat) = 9999 + 1 from rfl]
  cases d <;> simp [keyDesc] at hd <;> (unfold Instr.checkKey; simp [und_ok hu])
theorem getObj_map {r : Nat} {ents : Array MapEntry} {clock : Nat} (hb : w.heap[r]? = some (.map ents clock)) : (getObj r).run P w = .ok (.map ents clock) w := by
  simp [getObj, Sem.run, hb]
theorem lookup_ok (s : Sim M μ h w) {ty : TypeId} {m k : PV} {x y : Value} {ok : Bool} (hx : Rep M μ m x) (hy : Rep M μ k y) {r : R} (e : evLookup P h ty m k ok = some r) :
    Says P M μ w ((do pure (.value (← Instr.lookup ty x y ok)) : Sem Next).run P w) r := by
  unfold evLookup at e
  split at e
  · rename_i kt el es hu hm
    split at e
    · rename_i d hd
      have e1 := bifF e
      have hkd : keyDesc d = true := by simpa using e1.1
      replace e := e1.2
      have hents : ∃ ents : Array MapEntry, EntsRep M μ es ents.toList ∧ ((x = .map none ∧ ents = #[]) ∨ ∃ r clock, x = .map (some r) ∧ w.heap[r]? = some (.map ents clock)) := by
        unfold mapOf at hm
        split at hm
        · cases hm; cases hx; exact ⟨#[], ⟨rfl, fun i k v e h => by simp at h⟩, .inl ⟨rfl, rfl⟩⟩
        · rename_i j
          split at hm
          · rename_i es0 hb
            cases hm
            cases hx with
            | mp _ _ r hr =>
              obtain ⟨r', hr', ents, clock, h1, h2, h3⟩ := s.blk j _ hb
              rw [hr] at hr'; cases hr'
              exact ⟨ents, ⟨by simpa using h2, fun i k v e a b => h3 i k v e a (by simpa using b)⟩, .inr ⟨_, clock, rfl, h1⟩⟩
          · cases hm
        · cases hm
      obtain ⟨ents, her, hrun⟩ := hents
      split at e
      · rename_i rr hf
        obtain ⟨o, h1, h2⟩ := mfind_ok hy 0 her hf
        have fk : (Instr.findKey kt y ents.toList).run P w = .ok o w := by simp [Instr.findKey, und_ok hd, h1]
        split at e
        · rename_i v hv
          cases e
          have fin : ∀ z, Rep M μ v z → Rep M μ (bif ok then .tup [v, .bool rr.isSome] else v) (if ok then .tuple #[z, .bool rr.isSome] else z) := by
            intro z hz
            cases ok with
            | true => exact pair_ok hz (.bool _ _)
            | false => exact hz
          cases rr with
          | some v' =>
            cases hv
            cases o with
            | none => exact h2.elim
            | some iz =>
              obtain ⟨i, z⟩ := iz
              refine says_val s (x := if ok then .tuple #[z, .bool true] else z) ?_ (fin z h2)
              rcases hrun with ⟨rfl, rfl⟩ | ⟨r, clock, rfl, hb⟩
              · simp [Instr.findNow] at h1
              · simp only [Instr.lookup, Sem.run_bind, und_ok hu, Result.andThen, getObj_map hb, checkKey_ok hd hkd, fk, Sem.run_pure]
          | none =>
            cases o with
            | some _ => exact h2.elim
            | none =>
              obtain ⟨zv, hz, hrz⟩ := zeroEl_ok hv M μ w
              refine says_val s (x := if ok then .tuple #[zv, .bool false] else zv) ?_ (fin zv hrz)
              rcases hrun with ⟨rfl, rfl⟩ | ⟨r, clock, rfl, hb⟩
              · simp only [Instr.lookup, Sem.run_bind, und_ok hu, Result.andThen, checkKey_ok hd hkd, fk, Sem.run_pure, hz]
              · simp only [Instr.lookup, Sem.run_bind, und_ok hu, Result.andThen, getObj_map hb, checkKey_ok hd hkd, fk, Sem.run_pure, hz]
        · cases e
      · cases e
    · cases e
  · cases e

/-- an entry put -/
theorem mput_ok {d : TypeDesc} {k v : PV} {kv vv : Value} (hk : Rep M μ k kv) (hv : Rep M μ v vv) : ∀ {es es' : List (PV × PV)} {ents : List MapEntry} (n : Nat), EntsRep M μ es ents → mput d es k v = some es' →
    (∃ i x old, Instr.findNow d kv ents n = some (some (n + i, x)) ∧ ents[i]? = some old ∧ Instr.sameBits 10000 old.key kv = true ∧ EntsRep M μ es' (ents.modify i fun e => { e with key := kv, val := vv })) ∨
    (Instr.findNow d kv ents n = some none ∧ ∀ born, EntsRep M μ es' (ents ++ [{ key := kv, val := vv, born }]))
  | [], es', ents, n, hr, e => by
    cases e
    cases ents with
    | nil =>
      refine .inr ⟨rfl, fun born => ⟨rfl, fun i k v e h1 h2 => ?_⟩⟩
      cases i with
      | zero => simp at h1 h2; obtain ⟨rfl, rfl⟩ := h1; subst h2; exact ⟨hk, hv⟩
      | succ i => simp at h1
    | cons _ _ => simp [EntsRep] at hr
  | (k1, v1) :: es, es', ents, n, hr, e => by
    cases ents with
    | nil => simp [EntsRep] at hr
    | cons b ents =>
      obtain ⟨hk1, hv1⟩ := hr.2 0 k1 v1 b rfl rfl
      unfold mput at e
      split at e
      · rename_i hc
        cases e
        have := kceq_ok hc hk hk1
        refine .inl ⟨0, b.val, b, by simp [Instr.findNow, this.1], rfl, this.2 rfl, ?_, fun i k v e h1 h2 => ?_⟩
        · simpa using hr.1
        · cases i with
          | zero => simp at h1 h2; obtain ⟨rfl, rfl⟩ := h1; subst h2; exact ⟨hk, hv⟩
          | succ i => exact hr.2 (i + 1) k v e (by simpa using h1) (by simpa using h2)
      · rename_i hc
        have h0 := (kceq_ok hc hk hk1).1
        split at e
        · rename_i l hl
          cases e
          have cons : ∀ {l : List (PV × PV)} {en : List MapEntry}, EntsRep M μ l en → EntsRep M μ ((k1, v1) :: l) (b :: en) := by
            intro l en hle
            refine ⟨by simp [hle.1], fun i k v e h1 h2 => ?_⟩
            cases i with
            | zero => simp at h1 h2; obtain ⟨rfl, rfl⟩ := h1; subst h2; exact ⟨hk1, hv1⟩
            | succ i => exact hle.2 i k v e (by simpa using h1) (by simpa using h2)
          rcases mput_ok hk hv (n + 1) hr.tail hl with ⟨i, x, old, a1, a2, a3, a4⟩ | ⟨a1, a2⟩
          · refine .inl ⟨i + 1, x, old, ?_, by simpa using a2, a3, ?_⟩
            · simp [Instr.findNow, h0, a1]; omega
            · have := cons a4; simpa using this
          · exact .inr ⟨by simp [Instr.findNow, h0, a1], fun born => cons (a2 born)⟩
        · cases e
      · cases e
theorem setObj_run {r : Nat} {o o' : Obj} (hb : w.heap[r]? = some o) (hc : ∀ a t f, o ≠ .cells a t f) : (setObj r o').run P w = .ok () { w with heap := w.heap.setIfInBounds r o' } := by
  unfold setObj
  simp only [Sem.run, hb]
/-- an object (no cells) replaced -/
theorem Sim.object {id : Nat} {b b' : Blk} {r : Bk} {o o' : Obj} {h' : Hp} (s : Sim M μ h w) (hb : h.get id = some b) (hr : μ id = some r) (hlive : b.live) (hs : h.set id b' = some h')
    (ho : w.heap[r.b]? = some o) (hc : ∀ a t f, o ≠ .cells a t f) (hat : BlkAt M μ r (some o') b') (hc' : ∀ a t f, o' ≠ .cells a t f := by intro a t f hc; cases hc) :
    Sim M μ h' { w with heap := w.heap.setIfInBounds r.b o' } ∧ Grow M μ w M μ { w with heap := w.heap.setIfInBounds r.b o' } := by
  have hlt : r.b < w.heap.size := (s.use id r hr).2
  have hw : ∀ k, k ≠ r.b → (w.heap.setIfInBounds r.b o')[k]? = w.heap[k]? := fun k hk => by rw [Array.getElem?_setIfInBounds, if_neg (Ne.symm hk)]
  have hat' : BlkAt M μ r (w.heap.setIfInBounds r.b o')[r.b]? b' := by rw [Array.getElem?_setIfInBounds, if_pos rfl, if_pos hlt]; exact hat
  refine ⟨s.update hb hr hlive (Hp.get_set hs).1 hw (by simp) hat' ?_, Grow.update hr hw (by simp) rfl rfl rfl (fun arr ty f h => by
    have h : (w.heap.setIfInBounds r.b o')[r.b]? = some (.cells arr ty f) := h
    rw [Array.getElem?_setIfInBounds, if_pos rfl, if_pos hlt] at h
    exact absurd (Option.some.inj h) (hc' _ _ _))⟩
  intro a v hm ha
  have := (s.mem a v hm).2
  rw [World.cell?, ha, ho] at this
  cases o <;> first | (simp at this; done) | exact absurd rfl (hc _ _ _)
theorem mapUpdate_ok (s : Sim M μ h w) {ty : TypeId} {m k v : PV} {x y z : Value} (hx : Rep M μ m x) (hy : Rep M μ k y) (hz : Rep M μ v z) {r : R} (e : evMapUpdate P h ty m k v = some r) :
    Says P M μ w ((do Instr.mapUpdate ty x y z; pure .skip : Sem Next).run P w) r := by
  unfold evMapUpdate at e
  split at e
  · rename_i kt el j hu
    split at e
    · rename_i d hd
      have e1 := bifF e
      have hkd : keyDesc d = true := by simpa using e1.1
      replace e := e1.2
      split at e
      · rename_i es hb
        split at e
        · rename_i es' hput
          obtain ⟨h', hset, rfl⟩ := mapOpt e
          cases hx with
          | mp _ _ r hr =>
            obtain ⟨r', hr', ents, clock, h1, h2, h3⟩ := s.blk j _ hb
            rw [hr] at hr'; cases hr'
            have her : EntsRep M μ es ents.toList := ⟨by simpa using h2, fun i k v e a b => h3 i k v e a (by simpa using b)⟩
            rcases mput_ok hy hz 0 her hput with ⟨i, xx, old, a1, a2, a3, a4⟩ | ⟨a1, a2⟩
            · have fk : (Instr.findKey kt y ents.toList).run P w = .ok (some (i, xx)) w := by simp [Instr.findKey, und_ok hd, a1]
              have hg : ents[i]? = some old := by simpa using a2
              have hS := s.object (o' := .map (ents.modify i fun e => { e with key := y, val := z }) clock) hb hr trivial hset h1 (by intro a t f hc; cases hc)
                ⟨_, clock, rfl, by have := a4.1; simpa using this, fun i k v e p q => a4.2 i k v e p (by
                  rw [← Array.getElem?_toList] at q
                  simpa using q)⟩
              refine ⟨M, μ, _, ?_, hS.1, hS.2⟩
              have so := setObj_run (P := P) (o' := .map (ents.modify i fun e => { e with key := y, val := z }) clock) h1 (by intro a t f hc; cases hc)
              simp only [Instr.mapUpdate, Sem.run_bind, und_ok hu, Result.andThen, getObj_map h1, checkKey_ok hd hkd, fk, hg, Option.map_some, Option.getD_some, Instr.keyThatStays, a3, if_true, Sem.run_pure, so]
            · have fk : (Instr.findKey kt y ents.toList).run P w = .ok none w := by simp [Instr.findKey, und_ok hd, a1]
              have hS := s.object (o' := .map (ents.push { key := y, val := z, born := clock }) (clock + 1)) hb hr trivial hset h1 (by intro a t f hc; cases hc)
                ⟨_, clock + 1, rfl, by have := (a2 clock).1; simpa using this, fun i k v e p q => (a2 clock).2 i k v e p (by
                  rw [← Array.getElem?_toList] at q
                  simpa using q)⟩
              refine ⟨M, μ, _, ?_, hS.1, hS.2⟩
              have so := setObj_run (P := P) (o' := .map (ents.push { key := y, val := z, born := clock }) (clock + 1)) h1 (by intro a t f hc; cases hc)
              simp only [Instr.mapUpdate, Sem.run_bind, und_ok hu, Result.andThen, getObj_map h1, checkKey_ok hd hkd, fk, so, Sem.run_pure]
        · cases e
      · cases e
    · cases e
  · cases e
end
end Go.Proofs.YtopoaknleakdcaaGreat.Pi
namespace Go.Proofs.YtopoaknleakdcaaGreat.Pi
section
variable {P : Program} {M : Mem} {μ : Mu} {h : Hp} {w : World}

theorem addr_off (b o j : Nat) : (⟨b, o, none⟩ : Addr).add j = ⟨b, o + j, none⟩ := by simp [Addr.add]
theorem idx_div {n k : Nat} {l : Nat} (hn : 0 < n) (hk : k < l * n) : k / n < l ∧ k % n < n ∧ k / n * n + k % n = k :=
  ⟨(Nat.div_lt_iff_lt_mul hn).2 hk, Nat.mod_lt _ hn, by rw [Nat.mul_comm]; exact Nat.div_add_mod k n⟩
/-- the elements of a slice, their cells -/
theorem elems_ok (s : Sim M μ h w) {p : PV} {x : Value} {es : List PV} {n : Nat} (hx : Rep M μ p x) (e : elemsOf h p = some es) (hn : ∀ v ∈ es, v.cells.length = n) (hn0 : 0 < n) :
    ∃ a cap, x = .slice a es.length cap ∧ (es ≠ [] → ∃ (b : Addr) (news : List Value), a = some b ∧ news.length = es.length * n ∧ (∀ j v, news[j]? = some v → w.cell? (b.add j) = some v) ∧ FlatRep M μ n es news.toArray) := by
  unfold elemsOf at e
  split at e
  · cases e; cases hx; exact ⟨none, 0, rfl, fun h => absurd rfl h⟩
  · rename_i full es0
    cases e
    cases hx with
    | lst0 _ _ a cap hf => exact ⟨a, cap, rfl, fun h => absurd rfl h⟩
    | lst _ _ _ b off esz cap x hf hc hs hm h1 hr =>
      refine ⟨_, cap, rfl, fun hne => ?_⟩
      have hz : esz = n := by
        cases es with
        | nil => exact absurd rfl hne
        | cons e0 es => rw [← hs 0 e0 rfl]; exact hn e0 (by simp)
      subst hz
      refine ⟨_, (List.range (es.length * esz)).map fun k => x (k / esz) (k % esz), rfl, by simp, fun j v hj => ?_, by simp, fun i e he => hs i e he, fun i e j c he hj => ?_⟩
      · have hlt : j < es.length * esz := by
          have := (List.getElem?_eq_some_iff.1 hj).1; simpa using this
        simp only [List.getElem?_map, List.getElem?_range hlt, Option.map_some, Option.some.injEq] at hj
        subst hj
        obtain ⟨d1, d2, d3⟩ := idx_div hn0 hlt
        have hcell : ∃ c, (es[j / esz]).cells[j % esz]? = some c := ⟨_, List.getElem?_eq_getElem (by rw [hs (j / esz) _ (List.getElem?_eq_getElem d1)]; exact d2)⟩
        obtain ⟨c, hc⟩ := hcell
        have := (s.mem _ _ (hm (j / esz) _ (j % esz) c (List.getElem?_eq_getElem d1) hc)).2
        rw [addr_off, ← d3, ← Nat.add_assoc]
        rw [d3]; exact this
      · have hj' : j < esz := by rw [← hs i e he]; exact (List.getElem?_eq_some_iff.1 hj).1
        have hi' : i < es.length := (List.getElem?_eq_some_iff.1 he).1
        have hlt : i * esz + j < es.length * esz := by
          have : (i + 1) * esz ≤ es.length * esz := Nat.mul_le_mul_right _ hi'
          rw [Nat.add_mul] at this; omega
        refine ⟨x i j, ?_, h1 i e j c he hj, (hr i e j c he hj).mono (.refl _) (.mu0 _)⟩
        obtain ⟨d1, d2, d3⟩ := idx_div hn0 hlt
        have := mul_lt_row d2 hj' d3
        simp [List.getElem?_range hlt, this.1, this.2]
  · rename_i j off len
    split at e
    · rename_i es0 ex fz hb
      replace e := bifT e; obtain ⟨hle, e⟩ := e
      simp at hle
      cases e
      cases hx with
      | own _ _ _ _ r hr hcap =>
        obtain ⟨r', hr', arr, ety, h1, h2, h3, h4, h5, h6, h7⟩ := s.blk j _ hb
        rw [hr] at hr'; cases hr'
        have hlen : ((es0.drop off).take len).length = len := by simp; omega
        refine ⟨_, _, by rw [hlen], fun hne => ?_⟩
        have get : ∀ (i : Nat) (e : PV), ((es0.drop off).take len)[i]? = some e → es0[off + i]? = some e ∧ i < len := by
          intro i e he
          rw [List.getElem?_take] at he
          split at he
          · rw [List.getElem?_drop] at he; exact ⟨he, by assumption⟩
          · cases he
        have hz : r.esz = n := by
          have h0 : 0 < ((es0.drop off).take len).length := List.length_pos_iff.2 hne
          have hg := List.getElem?_eq_getElem h0
          rw [← h6 _ _ (get 0 _ hg).1]
          exact hn _ (List.getElem_mem h0)
        have inb : ∀ k, k < len * n → r.base + off * n + k < arr.size := by
          intro k hk
          have : (off + len) * n ≤ r.cap * n := Nat.mul_le_mul_right _ (by omega)
          rw [Nat.add_mul] at this
          rw [hz] at h2; omega
        refine ⟨_, (arr.toList.drop (r.base + off * n)).take (len * n), rfl, ?_, fun k v hk => ?_, ?_, fun i e he => ?_, fun i e k c he hk => ?_⟩
        · rw [hlen]; simp only [List.length_take, List.length_drop, Array.length_toList]
          rcases Nat.eq_zero_or_pos (len * n) with h0 | h0
          · omega
          · have := inb (len * n - 1) (by omega); omega
        · rw [List.getElem?_take] at hk
          split at hk
          · rw [List.getElem?_drop] at hk
            rw [addr_off, hz, cell?_eq (a := ⟨r.b, _, none⟩) h1 rfl]
            simpa using hk
          · cases hk
        · simp only [List.size_toArray]; rw [hlen]; simp only [List.length_take, List.length_drop, Array.length_toList]
          rcases Nat.eq_zero_or_pos (len * n) with h0 | h0
          · omega
          · have := inb (len * n - 1) (by omega); omega
        · rw [← hz]; exact h6 _ e (get i e he).1
        · obtain ⟨g1, g2⟩ := get i e he
          have hk' : k < n := by rw [← hz, ← h6 _ e g1]; exact (List.getElem?_eq_some_iff.1 hk).1
          have hlt : i * n + k < len * n := by
            have : (i + 1) * n ≤ len * n := Nat.mul_le_mul_right _ g2
            rw [Nat.add_mul] at this; omega
          have hin := inb _ hlt
          refine ⟨arr[r.base + off * n + (i * n + k)], ?_, ?_⟩
          · simp only [List.getElem?_toArray]
            rw [List.getElem?_take, if_pos hlt, List.getElem?_drop]
            simp [hin]
          · refine h7 (off + i) e k c _ g1 hk ?_
            rw [hz, Nat.add_mul]
            rw [show r.base + (off * n + i * n) + k = r.base + off * n + (i * n + k) by omega]
            exact Array.getElem?_eq_getElem hin
    · cases e
  · cases e

/-- elements written into a row -/
theorem row_write (s : Sim M μ h w) {j pos n : Nat} {es new : List PV} {ex fz : Bool} {h' : Hp} {r : Bk} {news : List Value} (hr : μ j = some r) (hb : h.get j = some (.row es ex fz))
    (hf : FlatRep M μ n new news.toArray) (hz : new ≠ [] → r.esz = n) (hpos : pos ≤ es.length) (hcap : pos + new.length ≤ r.cap) (hex : ex = true → pos + new.length ≤ es.length) (hfz : fz = true → pos = es.length)
    (hs : h.set j (.row (lput es pos new) ex fz) = some h') :
    ∃ w', (storeCells ⟨r.b, r.base + pos * r.esz, none⟩ news 0).run P w = .ok () w' ∧ Sim M μ h' w' ∧ Grow M μ w M μ w' := by
  obtain ⟨r', hr', arr, ety, h1, h2, h3, h4, h5, h6, h7⟩ := s.blk j _ hb
  rw [hr] at hr'; cases hr'
  have hnl : news.length = new.length * r.esz := by
    have := hf.1
    simp at this
    rw [this]
    by_cases hne : new = []
    · subst hne; simp
    · rw [hz hne]
  have hin : r.base + pos * r.esz + news.length ≤ arr.size := by
    have : (pos + new.length) * r.esz ≤ r.cap * r.esz := Nat.mul_le_mul_right _ hcap
    rw [Nat.add_mul] at this
    omega
  have hone : ∀ y ∈ news, y.oneCell' = true := by
    intro y hy
    obtain ⟨k, hk⟩ := List.mem_iff_getElem?.1 hy
    have hkl : k < new.length * r.esz := by rw [← hnl]; exact (List.getElem?_eq_some_iff.1 hk).1
    obtain ⟨d1, d2, d3⟩ := idx_div h5 hkl
    have hne : new ≠ [] := by intro e; subst e; simp at hkl
    have hg := List.getElem?_eq_getElem d1
    have hcl : (new[k / r.esz]).cells.length = r.esz := by rw [hf.2.1 _ _ hg, hz hne]
    obtain ⟨v, c1, c2, _⟩ := hf.2.2 (k / r.esz) _ (k % r.esz) _ hg (List.getElem?_eq_getElem (by omega))
    rw [← hz hne, d3] at c1
    simp at c1
    rw [hk] at c1; cases c1; exact c2
  obtain ⟨w', arr', hrun, k1, k2, k3, k4, k5, k6, k7, k8, k9⟩ := storeCells_ok (P := P) (ty := ety) news w arr (r.base + pos * r.esz) 0 h1 (by omega) hone
  refine ⟨w', hrun, ?_, Grow.update hr k4 k5 k6 k7 k8 (fun arr ty f h => by rw [k1] at h; cases h; rfl)⟩
  have hget : ∀ (i : Nat) (e : PV), (lput es pos new)[i]? = some e → (pos ≤ i ∧ i < pos + new.length ∧ new[i - pos]? = some e) ∨ (¬ (pos ≤ i ∧ i < pos + new.length) ∧ es[i]? = some e) := by
    intro i e he
    unfold lput at he
    rw [List.getElem?_append] at he
    simp only [List.length_take, Nat.min_eq_left hpos] at he
    by_cases hi : i < pos
    · rw [if_pos hi, List.getElem?_take, if_pos hi] at he
      exact .inr ⟨by omega, he⟩
    · rw [if_neg hi, List.getElem?_append] at he
      by_cases hi2 : i - pos < new.length
      · rw [if_pos hi2] at he; exact .inl ⟨by omega, by omega, he⟩
      · rw [if_neg hi2, List.getElem?_drop] at he
        refine .inr ⟨by omega, ?_⟩
        rwa [show pos + new.length + (i - pos - new.length) = i by omega] at he
  have hlen : (lput es pos new).length = max es.length (pos + new.length) := by
    unfold lput
    simp only [List.length_append, List.length_take, List.length_drop, Nat.min_eq_left hpos]
    omega
  refine s.update hb hr trivial (Hp.get_set hs).1 k4 k5 ?_ ?_
  · refine ⟨arr', ety, k1, by omega, ?_, ?_, h5, ?_, ?_⟩
    · rw [hlen]; exact Nat.max_le.2 ⟨h3, hcap⟩
    · intro hx; rw [hlen, ← h4 hx]; exact Nat.max_eq_left (hex hx)
    · intro i e he
      rcases hget i e he with ⟨a1, a2, a3⟩ | ⟨_, a3⟩
      · have hne : new ≠ [] := by intro e; subst e; simp at a3
        rw [hf.2.1 _ e a3, hz hne]
      · exact h6 i e a3
    · intro i e k c v he hk hv
      rw [k3] at hv
      rcases hget i e he with ⟨a1, a2, a3⟩ | ⟨a1, a3⟩
      · have hne : new ≠ [] := by intro e; subst e; simp at a3
        have hkn : k < r.esz := by rw [hz hne, ← hf.2.1 _ e a3]; exact (List.getElem?_eq_some_iff.1 hk).1
        obtain ⟨y, c1, c2, c3⟩ := hf.2.2 _ e k c a3 hk
        rw [← hz hne] at c1
        simp at c1
        have e1 : pos * r.esz + (i - pos) * r.esz = i * r.esz := by rw [← Nat.add_mul]; congr 1; omega
        have hlt : (i - pos) * r.esz + k < news.length := (List.getElem?_eq_some_iff.1 c1).1
        rw [if_pos (by omega)] at hv
        rw [show r.base + i * r.esz + k - (r.base + pos * r.esz + 0) = (i - pos) * r.esz + k by omega] at hv
        rw [c1] at hv; cases hv
        exact ⟨c2, c3⟩
      · have hkn : k < r.esz := by rw [← h6 _ e a3]; exact (List.getElem?_eq_some_iff.1 hk).1
        rw [if_neg ?_] at hv
        · exact h7 i e k c v a3 hk hv
        · intro hcon
          rw [hnl, Nat.add_zero] at hcon
          by_cases hi : i < pos
          · have : (i + 1) * r.esz ≤ pos * r.esz := Nat.mul_le_mul_right _ hi
            rw [Nat.add_mul] at this; omega
          · have : (pos + new.length) * r.esz ≤ i * r.esz := Nat.mul_le_mul_right _ (by omega)
            rw [Nat.add_mul] at this; omega
  · intro a y hm ha
    obtain ⟨q1, q2⟩ := s.sep j r _ a y hb hr trivial hm ha
    have hp := hfz q1
    have hmem := s.mem a y hm
    refine ⟨?_, q1, ?_⟩
    · rw [cell?_eq (arr := arr') (ty := ety) (f := (0, 0)) (by rw [ha]; exact k1) hmem.1, k3, if_neg (by subst hp; omega)]
      rw [← cell?_eq (arr := arr) (ty := ety) (f := (0, 0)) (by rw [ha]; exact h1) hmem.1]; exact hmem.2
    · rw [hlen]
      have : es.length * r.esz ≤ max es.length (pos + new.length) * r.esz := Nat.mul_le_mul_right _ (Nat.le_max_left _ _)
      omega

/-- a row under a new name -/
theorem Sim.rename (s : Sim M μ h w) {j id : Nat} {b : Blk} {r : Bk} {h' : Hp} (hb : h.get j = some b) (hr : μ j = some r) (hl : b.live) (hn : h.get id = none)
    (he : ∀ k, h'.get k = if k = id then some b else if k = j then some .dead else h.get k) : Sim M (upd μ id r) h' w ∧ Grow M μ w M (upd μ id r) w := by
  have hμ : μ id = none := by
    cases hm : μ id with
    | none => rfl
    | some x => exact absurd hn (s.use id x hm).1
  have hle := upd_le (r := r) hμ
  have hij : j ≠ id := by intro e; subst e; rw [hn] at hb; cases hb
  have hup : ∀ k x, upd μ id r k = some x → (k = id ∧ x = r) ∨ (k ≠ id ∧ μ k = some x) := by
    intro k x hk
    unfold upd at hk
    by_cases e : k = id
    · rw [if_pos e] at hk; exact .inl ⟨e, (Option.some.inj hk).symm⟩
    · rw [if_neg e] at hk; exact .inr ⟨e, hk⟩
  obtain ⟨r', hr', hat⟩ := s.blk j b hb
  rw [hr] at hr'; cases hr'
  refine ⟨⟨s.mem, ?_, ?_, ?_, ?_⟩, ⟨.refl _, hle, fun _ _ h => .inl h, ?_, Nat.le_refl _, fun _ _ _ => rfl, rfl, rfl, rfl, fun _ arr _ _ h => .inr ⟨arr, h⟩⟩⟩
  · intro k bk hk
    rw [he] at hk
    by_cases e : k = id
    · rw [if_pos e] at hk; cases hk; exact ⟨r, by simp [upd, e], hat.mono (.refl _) hle⟩
    · rw [if_neg e] at hk
      by_cases e2 : k = j
      · rw [if_pos e2] at hk; cases hk; exact ⟨r, hle _ _ (e2 ▸ hr), trivial⟩
      · rw [if_neg e2] at hk
        obtain ⟨rk, hrk, hatk⟩ := s.blk k bk hk
        exact ⟨rk, hle _ _ hrk, hatk.mono (.refl _) hle⟩
  · intro k rk hk
    rcases hup k rk hk with ⟨e, rfl⟩ | ⟨e, hk⟩
    · exact ⟨by rw [he, if_pos e]; simp, (s.use j _ hr).2⟩
    · have := s.use k rk hk
      refine ⟨?_, this.2⟩
      rw [he, if_neg e]; split
      · simp
      · exact this.1
  · intro k k' rk rk' bk bk' a1 a2 a3 a4 a5 a6 a7
    rw [he] at a3 a4
    have old : ∀ (k : Nat) (rk : Bk) (bk : Blk), k ≠ id → (if k = id then some b else if k = j then some .dead else h.get k) = some bk → bk.live → k ≠ j ∧ h.get k = some bk := by
      intro k rk bk e hk hlv
      rw [if_neg e] at hk
      by_cases e2 : k = j
      · rw [if_pos e2] at hk; cases hk; exact hlv.elim
      · rw [if_neg e2] at hk; exact ⟨e2, hk⟩
    rcases hup k rk a1 with ⟨e, hx⟩ | ⟨e, a1⟩
    · rcases hup k' rk' a2 with ⟨e', hx'⟩ | ⟨e', a2⟩
      · exact e.trans e'.symm
      · obtain ⟨o1, o2⟩ := old k' rk' bk' e' a4 a6
        exact absurd (s.inj k' j rk' r bk' b a2 hr o2 hb a6 hl (by rw [← a7, hx])) o1
    · obtain ⟨o1, o2⟩ := old k rk bk e a3 a5
      rcases hup k' rk' a2 with ⟨e', hx'⟩ | ⟨e', a2⟩
      · exact absurd (s.inj k j rk r bk b a1 hr o2 hb a5 hl (by rw [a7, hx'])) o1
      · obtain ⟨p1, p2⟩ := old k' rk' bk' e' a4 a6
        exact s.inj k k' rk rk' bk bk' a1 a2 o2 p2 a5 a6 a7
  · intro k rk bk a v a1 a2 a3 a4 a5
    rw [he] at a1
    rcases hup k rk a2 with ⟨e, hx⟩ | ⟨e, a2⟩
    · rw [if_pos e] at a1; cases a1; subst hx; exact s.sep j _ _ a v hb hr hl a4 a5
    · rw [if_neg e] at a1
      by_cases e2 : k = j
      · rw [if_pos e2] at a1; cases a1; exact a3.elim
      · rw [if_neg e2] at a1; exact s.sep k rk bk a v a1 a2 a3 a4 a5
  · intro k rk hk
    rcases hup k rk hk with ⟨_, hx⟩ | ⟨_, hk⟩
    · exact .inl ⟨j, r, hr, by rw [hx]⟩
    · exact .inl ⟨k, rk, hk, rfl⟩

/-- a grown row, new -/
theorem row_new (s : Sim M μ h w) {id n cap : Nat} {es : List PV} {fz : Bool} {arr rest : Array Value} {ty : TypeId} {h' : Hp} {w' : World} (hn0 : 0 < n) (hf : FlatRep M μ n es arr) (hcap : es.length ≤ cap) (hrest : rest.size = (cap - es.length) * n)
    (hn : h.new id (.row es false fz) = some h') (hw : w'.heap = w.heap.push (.cells (arr ++ rest) ty (0, 0))) (e1 : w'.os = w.os) (e2 : w'.output = w.output) (e3 : w'.tape = w.tape) :
    ∃ μ', Sim M μ' h' w' ∧ Grow M μ w M μ' w' ∧ ∀ k, k ≤ es.length → Rep M μ' (.own id 0 k) (.slice (some ⟨w.heap.size, 0, none⟩) k cap) := by
  obtain ⟨hget, hset, _⟩ := Hp.get_new hn
  have hμ : μ id = none := by
    cases hm : μ id with
    | none => rfl
    | some x => exact absurd hget (s.use id x hm).1
  have hsz : (arr ++ rest).size = cap * n := by
    rw [Array.size_append, hf.1, hrest, ← Nat.add_mul]; congr 1; omega
  have hS := s.fresh (w' := w') (r := ⟨w.heap.size, 0, n, cap⟩) (o := .cells (arr ++ rest) ty (0, 0)) hget hset hw rfl
    ⟨_, ty, rfl, by simp only [Nat.zero_add]; omega, hcap, (by intro h; cases h), hn0, fun i e he => hf.2.1 i e he, fun i e j c v a b hv => by
      obtain ⟨v', c1, c2, c3⟩ := hf.2.2 i e j c a b
      simp only [Nat.zero_add] at hv
      have hlt : i * n + j < arr.size := (Array.getElem?_eq_some_iff.1 c1).1
      rw [Array.getElem?_append_left hlt] at hv
      rw [hv] at c1; cases c1
      exact ⟨c2, c3.mono (.refl _) (upd_le hμ)⟩⟩
  refine ⟨_, hS.1, Grow.newBlk hμ hw rfl e1 e2 e3 (fun _ _ _ h => by cases h; rfl), fun k hk => ?_⟩
  have := Rep.own (M := M) (upd μ id ⟨w.heap.size, 0, n, cap⟩) id 0 k ⟨w.heap.size, 0, n, cap⟩ (by simp [upd]) (by simp; omega)
  simpa using this
end
end Go.Proofs.YtopoaknleakdcaaGreat.Pi
