/- A part of the evaluator of the model's code and of its soundness, for any program. No condition. -/
import Derived.Test.YtfecnejgdafbcaaGreatDoorPiM
namespace Go.Proofs.YtfecnejgdafbcaaGreatDoor.Pi
set_option linter.all false
variable [Gl]
section
variable {P : Program} {M : Mem} {μ : Mu} {h : Hp} {w : World}

theorem addr_off (b o j : Nat) : (⟨b, o, none⟩ : Addr).add j = ⟨b, o + j, none⟩ := by simp [Addr.add]
theorem idx_div {n k : Nat} {l : Nat} (hn : 0 < n) (hk : k < l * n) : k / n < l ∧ k % n < n ∧ k / n * n + k % n = k :=
  ⟨(Nat.div_lt_iff_lt_mul hn).2 hk, Nat.mod_lt _ hn, by rw [Nat.mul_comm]; exact Nat.div_add_mod k n⟩
/-- the elements of a slice, their cells -/
theorem elems_ok (s : Sim M μ h w) {p : PV} {x : Value} {es : List PV} {n : Nat} (hx : Rep M μ p x) (e : elemsOf h p = some es) (hn : ∀ v ∈ es, v.cells.length = n) (hn0 : 0 < n) :
    ∃ a cap, x = .slice a es.length cap ∧ (es ≠ [] → ∃ (b : Addr) (news : List Value), a = some b ∧ news.length = es.length * n ∧ (∀ j v, news[j]? = some v → w.cell? (b.add j) = some v) ∧ FlatRep M μ n es news.toArray) := by
  unfold elemsOf at e
  split at e
  · cases e; cases hx; exact ⟨none, 0, rfl, fun h => absurd rfl h⟩
  · rename_i full es0
    cases e
    cases hx with
    | lst0 _ _ a cap hf => exact ⟨some a, cap, rfl, fun h => absurd rfl h⟩
    | lst _ _ _ b off esz cap x hf hc hs hm h1 hr =>
      refine ⟨_, cap, rfl, fun hne => ?_⟩
      have hz : esz = n := by
        cases es with
        | nil => exact absurd rfl hne
        | cons e0 es => rw [← hs 0 e0 rfl]; exact hn e0 (by simp)
      subst hz
      refine ⟨_, (List.range (es.length * esz)).map fun k => x (k / esz) (k % esz), rfl, by simp, fun j v hj => ?_, by simp, fun i e he => hs i e he, fun i e j c he hj => ?_⟩
      · have hlt : j < es.length * esz := by
          have := (List.getElem?_eq_some_iff.1 hj).1; simpa using this
        simp only [List.getElem?_map, List.getElem?_range hlt, Option.map_some, Option.some.injEq] at hj
        subst hj
        obtain ⟨d1, d2, d3⟩ := idx_div hn0 hlt
        have hcell : ∃ c, (es[j / esz]).cells[j % esz]? = some c := ⟨_, List.getElem?_eq_getElem (by rw [hs (j / esz) _ (List.getElem?_eq_getElem d1)]; exact d2)⟩
        obtain ⟨c, hc⟩ := hcell
        have := (s.mem _ _ (hm (j / esz) _ (j % esz) c (List.getElem?_eq_getElem d1) hc)).2
        rw [addr_off, ← d3, ← Nat.add_assoc]
        rw [d3]; exact this
      · have hj' : j < esz := by rw [← hs i e he]; exact (List.getElem?_eq_some_iff.1 hj).1
        have hi' : i < es.length := (List.getElem?_eq_some_iff.1 he).1
        have hlt : i * esz + j < es.length * esz := by
          have : (i + 1) * esz ≤ es.length * esz := Nat.mul_le_mul_right _ hi'
          rw [Nat.add_mul] at this; omega
        refine ⟨x i j, ?_, h1 i e j c he hj, (hr i e j c he hj).mono (.refl _) (.mu0 _)⟩
        obtain ⟨d1, d2, d3⟩ := idx_div hn0 hlt
        have := mul_lt_row d2 hj' d3
        simp [List.getElem?_range hlt, this.1, this.2]
  · rename_i j off len
    split at e
    · rename_i es0 ex fz hb
      replace e := bifT e; obtain ⟨hle, e⟩ := e
      simp at hle
      cases e
      cases hx with
      | own _ _ _ _ r hr hcap =>
        obtain ⟨r', hr', arr, ety, h1, h2, h3, h4, h5, h6, h7⟩ := s.blk j _ hb
        rw [hr] at hr'; cases hr'
        have hlen : ((es0.drop off).take len).length = len := by simp; omega
        refine ⟨_, _, by rw [hlen], fun hne => ?_⟩
        have get : ∀ (i : Nat) (e : PV), ((es0.drop off).take len)[i]? = some e → es0[off + i]? = some e ∧ i < len := by
          intro i e he
          rw [List.getElem?_take] at he
          split at he
          · rw [List.getElem?_drop] at he; exact ⟨he, by assumption⟩
          · cases he
        have hz : r.esz = n := by
          have h0 : 0 < ((es0.drop off).take len).length := List.length_pos_iff.2 hne
          have hg := List.getElem?_eq_getElem h0
          rw [← h6 _ _ (get 0 _ hg).1]
          exact hn _ (List.getElem_mem h0)
        have inb : ∀ k, k < len * n → r.base + off * n + k < arr.size := by
          intro k hk
          have : (off + len) * n ≤ r.cap * n := Nat.mul_le_mul_right _ (by omega)
          rw [Nat.add_mul] at this
          rw [hz] at h2; omega
        refine ⟨_, (arr.toList.drop (r.base + off * n)).take (len * n), rfl, ?_, fun k v hk => ?_, ?_, fun i e he => ?_, fun i e k c he hk => ?_⟩
        · rw [hlen]; simp only [List.length_take, List.length_drop, Array.length_toList]
          rcases Nat.eq_zero_or_pos (len * n) with h0 | h0
          · omega
          · have := inb (len * n - 1) (by omega); omega
        · rw [List.getElem?_take] at hk
          split at hk
          · rw [List.getElem?_drop] at hk
            rw [addr_off, hz, cell?_eq (a := ⟨r.b, _, none⟩) h1 rfl]
            simpa using hk
          · cases hk
        · simp only [List.size_toArray]; rw [hlen]; simp only [List.length_take, List.length_drop, Array.length_toList]
          rcases Nat.eq_zero_or_pos (len * n) with h0 | h0
          · omega
          · have := inb (len * n - 1) (by omega); omega
        · rw [← hz]; exact h6 _ e (get i e he).1
        · obtain ⟨g1, g2⟩ := get i e he
          have hk' : k < n := by rw [← hz, ← h6 _ e g1]; exact (List.getElem?_eq_some_iff.1 hk).1
          have hlt : i * n + k < len * n := by
            have : (i + 1) * n ≤ len * n := Nat.mul_le_mul_right _ g2
            rw [Nat.add_mul] at this; omega
          have hin := inb _ hlt
          refine ⟨arr[r.base + off * n + (i * n + k)], ?_, ?_⟩
          · simp only [List.getElem?_toArray]
            rw [List.getElem?_take, if_pos hlt, List.getElem?_drop]
            simp [hin]
          · refine h7 (off + i) e k c _ g1 hk ?_
            rw [hz, Nat.add_mul]
            rw [show r.base + (off * n + i * n) + k = r.base + off * n + (i * n + k) by omega]
            exact Array.getElem?_eq_getElem hin
    · cases e
  · cases e

/-- elements written into a row -/
theorem row_write (s : Sim M μ h w) {j pos n : Nat} {es new : List PV} {ex fz : Bool} {h' : Hp} {r : Bk} {news : List Value} (hr : μ j = some r) (hb : h.get j = some (.row es ex fz))
    (hf : FlatRep M μ n new news.toArray) (hz : new ≠ [] → r.esz = n) (hpos : pos ≤ es.length) (hcap : pos + new.length ≤ r.cap) (hex : ex = true → pos + new.length ≤ es.length) (hfz : fz = true → pos = es.length)
    (hs : h.set j (.row (lput es pos new) ex fz) = some h') :
    ∃ w', (storeCells ⟨r.b, r.base + pos * r.esz, none⟩ news 0).run P w = .ok () w' ∧ Sim M μ h' w' ∧ Grow M μ w M μ w' := by
  obtain ⟨r', hr', arr, ety, h1, h2, h3, h4, h5, h6, h7⟩ := s.blk j _ hb
  rw [hr] at hr'; cases hr'
  have hnl : news.length = new.length * r.esz := by
    have := hf.1
    simp at this
    rw [this]
    by_cases hne : new = []
    · subst hne; simp
    · rw [hz hne]
  have hin : r.base + pos * r.esz + news.length ≤ arr.size := by
    have : (pos + new.length) * r.esz ≤ r.cap * r.esz := Nat.mul_le_mul_right _ hcap
    rw [Nat.add_mul] at this
    omega
  have hone : ∀ y ∈ news, y.oneCell' = true := by
    intro y hy
    obtain ⟨k, hk⟩ := List.mem_iff_getElem?.1 hy
    have hkl : k < new.length * r.esz := by rw [← hnl]; exact (List.getElem?_eq_some_iff.1 hk).1
    obtain ⟨d1, d2, d3⟩ := idx_div h5 hkl
    have hne : new ≠ [] := by intro e; subst e; simp at hkl
    have hg := List.getElem?_eq_getElem d1
    have hcl : (new[k / r.esz]).cells.length = r.esz := by rw [hf.2.1 _ _ hg, hz hne]
    obtain ⟨v, c1, c2, _⟩ := hf.2.2 (k / r.esz) _ (k % r.esz) _ hg (List.getElem?_eq_getElem (by omega))
    rw [← hz hne, d3] at c1
    simp at c1
    rw [hk] at c1; cases c1; exact c2
  obtain ⟨w', arr', hrun, k1, k2, k3, k4, k5, k6, k7, k8, k9⟩ := storeCells_ok (P := P) (ty := ety) news w arr (r.base + pos * r.esz) 0 h1 (by omega) hone
  refine ⟨w', hrun, ?_, Grow.update hr k4 k5 k6 k7 k8 (fun arr ty f h => by rw [k1] at h; cases h; rfl)⟩
  have hget : ∀ (i : Nat) (e : PV), (lput es pos new)[i]? = some e → (pos ≤ i ∧ i < pos + new.length ∧ new[i - pos]? = some e) ∨ (¬ (pos ≤ i ∧ i < pos + new.length) ∧ es[i]? = some e) := by
    intro i e he
    unfold lput at he
    rw [List.getElem?_append] at he
    simp only [List.length_take, Nat.min_eq_left hpos] at he
    by_cases hi : i < pos
    · rw [if_pos hi, List.getElem?_take, if_pos hi] at he
      exact .inr ⟨by omega, he⟩
    · rw [if_neg hi, List.getElem?_append] at he
      by_cases hi2 : i - pos < new.length
      · rw [if_pos hi2] at he; exact .inl ⟨by omega, by omega, he⟩
      · rw [if_neg hi2, List.getElem?_drop] at he
        refine .inr ⟨by omega, ?_⟩
        rwa [show pos + new.length + (i - pos - new.length) = i by omega] at he
  have hlen : (lput es pos new).length = max es.length (pos + new.length) := by
    unfold lput
    simp only [List.length_append, List.length_take, List.length_drop, Nat.min_eq_left hpos]
    omega
  refine s.update hb hr trivial (Hp.get_set hs).1 k4 k5 ?_ ?_
  · refine ⟨arr', ety, k1, by omega, ?_, ?_, h5, ?_, ?_⟩
    · rw [hlen]; exact Nat.max_le.2 ⟨h3, hcap⟩
    · intro hx; rw [hlen, ← h4 hx]; exact Nat.max_eq_left (hex hx)
    · intro i e he
      rcases hget i e he with ⟨a1, a2, a3⟩ | ⟨_, a3⟩
      · have hne : new ≠ [] := by intro e; subst e; simp at a3
        rw [hf.2.1 _ e a3, hz hne]
      · exact h6 i e a3
    · intro i e k c v he hk hv
      rw [k3] at hv
      rcases hget i e he with ⟨a1, a2, a3⟩ | ⟨a1, a3⟩
      · have hne : new ≠ [] := by intro e; subst e; simp at a3
        have hkn : k < r.esz := by rw [hz hne, ← hf.2.1 _ e a3]; exact (List.getElem?_eq_some_iff.1 hk).1
        obtain ⟨y, c1, c2, c3⟩ := hf.2.2 _ e k c a3 hk
        rw [← hz hne] at c1
        simp at c1
        have e1 : pos * r.esz + (i - pos) * r.esz = i * r.esz := by rw [← Nat.add_mul]; congr 1; omega
        have hlt : (i - pos) * r.esz + k < news.length := (List.getElem?_eq_some_iff.1 c1).1
        rw [if_pos (by omega)] at hv
        rw [show r.base + i * r.esz + k - (r.base + pos * r.esz + 0) = (i - pos) * r.esz + k by omega] at hv
        rw [c1] at hv; cases hv
        exact ⟨c2, c3⟩
      · have hkn : k < r.esz := by rw [← h6 _ e a3]; exact (List.getElem?_eq_some_iff.1 hk).1
        rw [if_neg ?_] at hv
        · exact h7 i e k c v a3 hk hv
        · intro hcon
          rw [hnl, Nat.add_zero] at hcon
          by_cases hi : i < pos
          · have : (i + 1) * r.esz ≤ pos * r.esz := Nat.mul_le_mul_right _ hi
            rw [Nat.add_mul] at this; omega
          · have : (pos + new.length) * r.esz ≤ i * r.esz := Nat.mul_le_mul_right _ (by omega)
            rw [Nat.add_mul] at this; omega
  · intro a y hm ha
    obtain ⟨q1, q2⟩ := s.sep j r _ a y hb hr trivial hm ha
    have hp := hfz q1
    have hmem := s.mem a y hm
    refine ⟨?_, q1, ?_⟩
    · rw [cell?_eq (arr := arr') (ty := ety) (f := (0, 0)) (by rw [ha]; exact k1) hmem.1, k3, if_neg (by subst hp; omega)]
      rw [← cell?_eq (arr := arr) (ty := ety) (f := (0, 0)) (by rw [ha]; exact h1) hmem.1]; exact hmem.2
    · rw [hlen]
      have : es.length * r.esz ≤ max es.length (pos + new.length) * r.esz := Nat.mul_le_mul_right _ (Nat.le_max_left _ _)
      omega

/-- a row under a new name -/
theorem Sim.rename (s : Sim M μ h w) {j id : Nat} {b : Blk} {r : Bk} {h' : Hp} (hb : h.get j = some b) (hr : μ j = some r) (hl : b.live) (hn : h.get id = none)
    (he : ∀ k, h'.get k = if k = id then some b else if k = j then some .dead else h.get k) : Sim M (upd μ id r) h' w ∧ Grow M μ w M (upd μ id r) w := by
  have hμ : μ id = none := by
    cases hm : μ id with
    | none => rfl
    | some x => exact absurd hn (s.use id x hm).1
  have hle := upd_le (r := r) hμ
  have hij : j ≠ id := by intro e; subst e; rw [hn] at hb; cases hb
  have hup : ∀ k x, upd μ id r k = some x → (k = id ∧ x = r) ∨ (k ≠ id ∧ μ k = some x) := by
    intro k x hk
    unfold upd at hk
    by_cases e : k = id
    · rw [if_pos e] at hk; exact .inl ⟨e, (Option.some.inj hk).symm⟩
    · rw [if_neg e] at hk; exact .inr ⟨e, hk⟩
  obtain ⟨r', hr', hat⟩ := s.blk j b hb
  rw [hr] at hr'; cases hr'
  refine ⟨⟨s.glb, s.mem, ?_, ?_, ?_, ?_⟩, ⟨.refl _, hle, fun _ _ h => .inl h, ?_, Nat.le_refl _, fun _ _ _ => rfl, rfl, rfl, rfl, fun _ arr _ _ h => .inr ⟨arr, h⟩⟩⟩
  · intro k bk hk
    rw [he] at hk
    by_cases e : k = id
    · rw [if_pos e] at hk; cases hk; exact ⟨r, by simp [upd, e], hat.mono (.refl _) hle⟩
    · rw [if_neg e] at hk
      by_cases e2 : k = j
      · rw [if_pos e2] at hk; cases hk; exact ⟨r, hle _ _ (e2 ▸ hr), trivial⟩
      · rw [if_neg e2] at hk
        obtain ⟨rk, hrk, hatk⟩ := s.blk k bk hk
        exact ⟨rk, hle _ _ hrk, hatk.mono (.refl _) hle⟩
  · intro k rk hk
    rcases hup k rk hk with ⟨e, rfl⟩ | ⟨e, hk⟩
    · exact ⟨by rw [he, if_pos e]; simp, (s.use j _ hr).2⟩
    · have := s.use k rk hk
      refine ⟨?_, this.2⟩
      rw [he, if_neg e]; split
      · simp
      · exact this.1
  · intro k k' rk rk' bk bk' a1 a2 a3 a4 a5 a6 a7
    rw [he] at a3 a4
    have old : ∀ (k : Nat) (rk : Bk) (bk : Blk), k ≠ id → (if k = id then some b else if k = j then some .dead else h.get k) = some bk → bk.live → k ≠ j ∧ h.get k = some bk := by
      intro k rk bk e hk hlv
      rw [if_neg e] at hk
      by_cases e2 : k = j
      · rw [if_pos e2] at hk; cases hk; exact hlv.elim
      · rw [if_neg e2] at hk; exact ⟨e2, hk⟩
    rcases hup k rk a1 with ⟨e, hx⟩ | ⟨e, a1⟩
    · rcases hup k' rk' a2 with ⟨e', hx'⟩ | ⟨e', a2⟩
      · exact e.trans e'.symm
      · obtain ⟨o1, o2⟩ := old k' rk' bk' e' a4 a6
        exact absurd (s.inj k' j rk' r bk' b a2 hr o2 hb a6 hl (by rw [← a7, hx])) o1
    · obtain ⟨o1, o2⟩ := old k rk bk e a3 a5
      rcases hup k' rk' a2 with ⟨e', hx'⟩ | ⟨e', a2⟩
      · exact absurd (s.inj k j rk r bk b a1 hr o2 hb a5 hl (by rw [a7, hx'])) o1
      · obtain ⟨p1, p2⟩ := old k' rk' bk' e' a4 a6
        exact s.inj k k' rk rk' bk bk' a1 a2 o2 p2 a5 a6 a7
  · intro k rk bk a v a1 a2 a3 a4 a5
    rw [he] at a1
    rcases hup k rk a2 with ⟨e, hx⟩ | ⟨e, a2⟩
    · rw [if_pos e] at a1; cases a1; subst hx; exact s.sep j _ _ a v hb hr hl a4 a5
    · rw [if_neg e] at a1
      by_cases e2 : k = j
      · rw [if_pos e2] at a1; cases a1; exact a3.elim
      · rw [if_neg e2] at a1; exact s.sep k rk bk a v a1 a2 a3 a4 a5
  · intro k rk hk
    rcases hup k rk hk with ⟨_, hx⟩ | ⟨_, hk⟩
    · exact .inl ⟨j, r, hr, by rw [hx]⟩
    · exact .inl ⟨k, rk, hk, rfl⟩

/-- a grown row, new -/
theorem row_new (s : Sim M μ h w) {id n cap : Nat} {es : List PV} {fz : Bool} {arr rest : Array Value} {ty : TypeId} {h' : Hp} {w' : World} (hn0 : 0 < n) (hf : FlatRep M μ n es arr) (hcap : es.length ≤ cap) (hrest : rest.size = (cap - es.length) * n)
    (hn : h.new id (.row es false fz) = some h') (hw : w'.heap = w.heap.push (.cells (arr ++ rest) ty (0, 0))) (e1 : w'.os = w.os) (e2 : w'.output = w.output) (e3 : w'.tape = w.tape) :
    ∃ μ', Sim M μ' h' w' ∧ Grow M μ w M μ' w' ∧ ∀ k, k ≤ es.length → Rep M μ' (.own id 0 k) (.slice (some ⟨w.heap.size, 0, none⟩) k cap) := by
  obtain ⟨hget, hset, _⟩ := Hp.get_new hn
  have hμ : μ id = none := by
    cases hm : μ id with
    | none => rfl
    | some x => exact absurd hget (s.use id x hm).1
  have hsz : (arr ++ rest).size = cap * n := by
    rw [Array.size_append, hf.1, hrest, ← Nat.add_mul]; congr 1; omega
  have hS := s.fresh (w' := w') (r := ⟨w.heap.size, 0, n, cap⟩) (o := .cells (arr ++ rest) ty (0, 0)) hget hset hw rfl
    ⟨_, ty, rfl, by simp only [Nat.zero_add]; omega, hcap, (by intro h; cases h), hn0, fun i e he => hf.2.1 i e he, fun i e j c v a b hv => by
      obtain ⟨v', c1, c2, c3⟩ := hf.2.2 i e j c a b
      simp only [Nat.zero_add] at hv
      have hlt : i * n + j < arr.size := (Array.getElem?_eq_some_iff.1 c1).1
      rw [Array.getElem?_append_left hlt] at hv
      rw [hv] at c1; cases c1
      exact ⟨c2, c3.mono (.refl _) (upd_le hμ)⟩⟩
  refine ⟨_, hS.1, Grow.newBlk hμ hw rfl e1 e2 e3 (fun _ _ _ h => by cases h; rfl), fun k hk => ?_⟩
  have := Rep.own (M := M) (upd μ id ⟨w.heap.size, 0, n, cap⟩) id 0 k ⟨w.heap.size, 0, n, cap⟩ (by simp [upd]) (by simp; omega)
  simpa using this
end
end Go.Proofs.YtfecnejgdafbcaaGreatDoor.Pi
