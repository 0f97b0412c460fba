/- A part of the evaluator of the model's code and of its soundness, for any program. No condition. -/
import Derived.Test.YtfecnejgdafbcaaGreatDoorPiR
namespace Go.Proofs.YtfecnejgdafbcaaGreatDoor.Pi
set_option linter.all false
variable [Gl]
section
variable {P : Program} {M : Mem} {μ : Mu} {h : Hp} {w : World}
mutual
theorem flat_rep : ∀ {q : PV}, flat q = true → ∀ {M0 : Mem} {μ0 : Mu} {v : Value} (M : Mem) (μ : Mu), Rep M0 μ0 q v → Rep M μ q v
  | .agg cs, hf, M0, μ0, v, M, μ, hr => by
    cases hr with
    | agg _ _ vs hl h1 h =>
      have := flatl_rep (q := cs) (by simpa [flat] using hf) M μ (M0 := M0) (μ0 := μ0)
      exact .agg _ _ _ hl h1 fun i c v a b => this i c v a (h i c v a b)
  | .tup cs, hf, M0, μ0, v, M, μ, hr => by
    cases hr with
    | tup _ _ vs hl h =>
      have := flatl_rep (q := cs) (by simpa [flat] using hf) M μ (M0 := M0) (μ0 := μ0)
      exact .tup _ _ _ hl fun i c v a b => this i c v a (h i c v a b)
  | .ifc t x, hf, M0, μ0, v, M, μ, hr => by
    cases hr with
    | ifc _ _ _ y hy => exact .ifc _ _ _ _ (flat_rep (by simpa [flat] using hf) M μ hy)
  | .lst full es, hf, M0, μ0, v, M, μ, hr => by
    cases hr with
    | lst0 _ _ a cap hz => exact .lst0 _ _ _ _ hz
    | lst _ _ _ b off esz cap x h1 h2 h3 h4 h5 h6 =>
      have : es = [] := by simpa [flat] using hf
      subst this
      exact .lst _ _ _ _ _ esz _ x h1 h2 h3 (fun i e j c he => by simp at he) h5 (fun i e j c he => by simp at he)
  | .bool b, _, _, _, _, M, μ, hr => by cases hr; constructor
  | .int k n, _, _, _, _, M, μ, hr => by cases hr; constructor
  | .str l, _, _, _, _, M, μ, hr => by cases hr; constructor
  | .nilp, _, _, _, _, M, μ, hr => by cases hr; constructor
  | .nils, _, _, _, _, M, μ, hr => by cases hr; constructor
  | .nilm, _, _, _, _, M, μ, hr => by cases hr; constructor
  | .nilf, _, _, _, _, M, μ, hr => by cases hr; constructor
  | .nili, _, _, _, _, M, μ, hr => by cases hr; constructor
  | .own _ _ _, hf, _, _, _, _, _, _ => by simp [flat] at hf
  | .ptr _ _, hf, _, _, _, _, _, _ => by simp [flat] at hf
  | .ept _ _ _, hf, _, _, _, _, _, _ => by simp [flat] at hf
  | .view _, hf, _, _, _, _, _, _ => by simp [flat] at hf
  | .fn _ _ _, hf, _, _, _, _, _, _ => by simp [flat] at hf
  | .yl _, hf, _, _, _, _, _, _ => by simp [flat] at hf
  | .mp _, hf, _, _, _, _, _, _ => by simp [flat] at hf
  | .gk _, hf, _, _, _, _, _, _ => by simp [flat] at hf
  | .adr _ _, _, _, _, _, M, μ, hr => by cases hr; constructor
theorem flatl_rep : ∀ {q : List PV}, flatl q = true → ∀ {M0 : Mem} {μ0 : Mu} (M : Mem) (μ : Mu) (i : Nat) (c : PV) (v : Value), q[i]? = some c → Rep M0 μ0 c v → Rep M μ c v
  | [], _, _, _, _, _, i, c, v, hc, _ => by simp at hc
  | p :: ps, hf, M0, μ0, M, μ, i, c, v, hc, hr => by
    simp [flatl] at hf
    cases i with
    | zero => simp at hc; subst hc; exact flat_rep hf.1 M μ hr
    | succ i => exact flatl_rep hf.2 M μ i c v (by simpa using hc) hr
end

theorem Hp.get_lf (nx id : Nat) : Hp.get { m := .lf, nx := nx } id = none := rfl
/-- a callee's own, empty heap -/
theorem Sim.empty (s : Sim M μ h w) (L : List Nat) : Sim (frz M h μ w L) mu0 { m := .lf, nx := 0 } w where
  glb := s.glb.mono (frz_le L)
  mem a v hm := frz_mem s hm
  blk id b hb := by rw [Hp.get_lf] at hb; cases hb
  use id r hr := by simp [mu0] at hr
  inj id id' r r' b b' hr := by simp [mu0] at hr
  sep id r b a v hb := by rw [Hp.get_lf] at hb; cases hb
/-- a world where every old block stands -/
theorem Sim.world {w2 : World} (s : Sim M μ h w) (hs : w.heap.size ≤ w2.heap.size) (hk : ∀ b, b < w.heap.size → w2.heap[b]? = w.heap[b]?) : Sim M μ h w2 where
  glb := s.glb
  mem a v hm := ⟨(s.mem a v hm).1, by rw [cell?_congr (hk _ (s.mem_lt hm))]; exact (s.mem a v hm).2⟩
  blk id b hb := by
    obtain ⟨r, hr, hat⟩ := s.blk id b hb
    exact ⟨r, hr, by rw [hk _ (s.use id r hr).2]; exact hat⟩
  use id r hr := ⟨(s.use id r hr).1, Nat.lt_of_lt_of_le (s.use id r hr).2 hs⟩
  inj := s.inj
  sep := s.sep
section
variable {L : List Nat} {M2 : Mem} {μ2 : Mu} {h2 : Hp} {w2 : World}
theorem Grow.keeps {M0 : Mem} (g : Grow M0 mu0 w M2 μ2 w2) : ∀ b, b < w.heap.size → w2.heap[b]? = w.heap[b]? := fun b hb => g.keep b hb fun id r hr => by simp [mu0] at hr
/-- behind a call that hands back nothing of its own -/
theorem join_flat (s : Sim M μ h w) {M0 : Mem} (g : Grow M0 mu0 w M2 μ2 w2) : Sim M μ h w2 ∧ Grow M μ w M μ w2 :=
  ⟨s.world g.size g.keeps, ⟨.refl _, .refl _, fun _ _ h => .inl h, fun id r h => .inl ⟨id, r, h, rfl⟩, g.size, fun b hb _ => g.keeps b hb, g.os, g.output, g.tape, g.nf⟩⟩
/-- behind a call that hands back data -/
theorem join_mem (s : Sim M μ h w) (s2 : Sim M2 μ2 h2 w2) (g : Grow (frz M h μ w L) mu0 w M2 μ2 w2) {h1 : Hp} (hf : freeze h L = some h1) (l : List Nat) :
    ∃ M', Sim M' μ h1 w2 ∧ Grow M μ w M' μ w2 ∧ MLe (frz M2 h2 μ2 w2 l) M' ∧ (∀ a v, M' a = some v → w.heap.size ≤ a.block → frz M2 h2 μ2 w2 l a = some v) := by
  obtain ⟨M1, m1, m2, m3, _⟩ := freeze_ok L s hf
  have m2' : Sim M1 μ h1 w2 := m2.world g.size g.keeps
  let M3 := frz M2 h2 μ2 w2 l
  let M' : Mem := fun a => if a.block < w.heap.size then M1 a else M3 a
  have old : ∀ a v, M3 a = some v → a.block < w.heap.size → M1 a = some v := by
    intro a v hv hlt
    rcases frz_inv hv with hv | ⟨⟨id, _, r, b, hr, _, hab, _⟩, _⟩
    · rcases g.only a v hv with hv | ⟨id, r, hr, _⟩ | hge
      · exact m1 a v hv
      · simp [mu0] at hr
      · omega
    · rcases g.fresh id r hr with ⟨id0, r0, hr0, _⟩ | hge
      · simp [mu0] at hr0
      · omega
  have le3 : MLe M3 M' := by
    intro a v hv
    show (if a.block < w.heap.size then M1 a else M3 a) = some v
    split
    · exact old a v hv (by assumption)
    · exact hv
  have le1 : MLe M1 M' := by
    intro a v hv
    show (if a.block < w.heap.size then M1 a else M3 a) = some v
    rw [if_pos (m2.mem_lt hv)]; exact hv
  have inv : ∀ a v, M' a = some v → (a.block < w.heap.size ∧ M1 a = some v) ∨ (w.heap.size ≤ a.block ∧ M3 a = some v) := by
    intro a v hv
    have hv : (if a.block < w.heap.size then M1 a else M3 a) = some v := hv
    by_cases hlt : a.block < w.heap.size
    · rw [if_pos hlt] at hv; exact .inl ⟨hlt, hv⟩
    · rw [if_neg hlt] at hv; exact .inr ⟨by omega, hv⟩
  refine ⟨M', ⟨m2'.glb.mono le1, ?_, ?_, m2'.use, m2'.inj, ?_⟩, ⟨(frz_le L).trans (m1.trans le1), .refl _, ?_, fun id r h => .inl ⟨id, r, h, rfl⟩, g.size, fun b hb _ => g.keeps b hb, g.os, g.output, g.tape, g.nf⟩, le3, ?_⟩
  · intro a v hv
    rcases inv a v hv with ⟨_, hv⟩ | ⟨_, hv⟩
    · exact m2'.mem a v hv
    · exact frz_mem s2 hv
  · intro id b hb
    obtain ⟨r, hr, hat⟩ := m2'.blk id b hb
    exact ⟨r, hr, hat.mono le1 (.refl _)⟩
  · intro id r b a v a1 a2 a3 a4 a5
    rcases inv a v a4 with ⟨_, hv⟩ | ⟨hge, hv⟩
    · exact m2'.sep id r b a v a1 a2 a3 hv a5
    · have := (s.use id r a2).2; omega
  · intro a v hv
    rcases inv a v hv with ⟨_, hv⟩ | ⟨hge, hv⟩
    · rcases m3 a v hv with h | h
      · exact .inl h
      · exact .inr (.inl h)
    · exact .inr (.inr hge)
  · intro a v hv hge
    rcases inv a v hv with ⟨hlt, _⟩ | ⟨_, hv⟩
    · omega
    · exact hv
theorem join_data (s : Sim M μ h w) (s2 : Sim M2 μ2 h2 w2) (g : Grow (frz M h μ w L) mu0 w M2 μ2 w2) {h1 : Hp} (hf : freeze h L = some h1) {n : Nat} {p q : PV} {l : List Nat} {v : Value} (e : pur h2 n p = some (q, l)) (hr : Rep M2 μ2 p v) :
    ∃ M', Sim M' μ h1 w2 ∧ Grow M μ w M' μ w2 ∧ Rep M' μ q v := by
  obtain ⟨M', a, b, c, _⟩ := join_mem s s2 g hf l
  exact ⟨M', a, b, (pur_ok s2 l n p q l v e hr (fun _ h => h)).mono c (.mu0 _)⟩

/-- a block that stands is taken on -/
theorem Sim.adopt {id : Nat} {b : Blk} {r : Bk} {h' : Hp} (s : Sim M μ h w) (hn : h.get id = none) (he : ∀ k, h'.get k = if k = id then some b else h.get k) (hlt : r.b < w.heap.size)
    (hne : ∀ k rk, μ k = some rk → rk.b ≠ r.b) (hm : ∀ a v, M a = some v → a.block ≠ r.b) (hat : BlkAt M (upd μ id r) r w.heap[r.b]? b) : Sim M (upd μ id r) h' w ∧ μ id = none := by
  have hμ : μ id = none := by
    cases hm : μ id with
    | none => rfl
    | some x => exact absurd hn (s.use id x hm).1
  have hle := upd_le (r := r) hμ
  have hup : ∀ k x, upd μ id r k = some x → (k = id ∧ x = r) ∨ (k ≠ id ∧ μ k = some x) := by
    intro k x hk
    unfold upd at hk
    by_cases e : k = id
    · rw [if_pos e] at hk; exact .inl ⟨e, (Option.some.inj hk).symm⟩
    · rw [if_neg e] at hk; exact .inr ⟨e, hk⟩
  refine ⟨⟨s.glb, s.mem, ?_, ?_, ?_, ?_⟩, hμ⟩
  · intro k bk hk
    rw [he] at hk
    by_cases e : k = id
    · rw [if_pos e] at hk; cases hk; exact ⟨r, by simp [upd, e], hat⟩
    · rw [if_neg e] at hk
      obtain ⟨rk, hrk, hatk⟩ := s.blk k bk hk
      exact ⟨rk, hle _ _ hrk, hatk.mono (.refl _) hle⟩
  · intro k rk hk
    rcases hup k rk hk with ⟨e, rfl⟩ | ⟨e, hk⟩
    · exact ⟨by rw [he, if_pos e]; simp, hlt⟩
    · have := s.use k rk hk
      exact ⟨by rw [he, if_neg e]; exact this.1, this.2⟩
  · intro k k' rk rk' bk bk' a1 a2 a3 a4 a5 a6 a7
    rw [he] at a3 a4
    rcases hup k rk a1 with ⟨e, hx⟩ | ⟨e, a1⟩
    · rcases hup k' rk' a2 with ⟨e', hx'⟩ | ⟨e', a2⟩
      · exact e.trans e'.symm
      · exact absurd (by rw [← a7, hx]) (hne k' rk' a2)
    · rcases hup k' rk' a2 with ⟨e', hx'⟩ | ⟨e', a2⟩
      · exact absurd (by rw [a7, hx']) (hne k rk a1)
      · rw [if_neg e] at a3; rw [if_neg e'] at a4; exact s.inj k k' rk rk' bk bk' a1 a2 a3 a4 a5 a6 a7
  · intro k rk bk a v a1 a2 a3 a4 a5
    rw [he] at a1
    rcases hup k rk a2 with ⟨e, hx⟩ | ⟨e, a2⟩
    · exact absurd (by rw [a5, hx]) (hm a v a4)
    · rw [if_neg e] at a1; exact s.sep k rk bk a v a1 a2 a3 a4 a5
theorem flatl_get : ∀ {ps : List PV}, flatl ps = true → ∀ (i : Nat) (p : PV), ps[i]? = some p → flat p = true
  | [], _, i, p, hp => by simp at hp
  | q :: ps, hf, i, p, hp => by
    simp [flatl] at hf
    cases i with
    | zero => simp at hp; subst hp; exact hf.1
    | succ i => exact flatl_get hf.2 i p (by simpa using hp)
theorem flat_cells {p : PV} (hf : flat p = true) : ∀ (j : Nat) (c : PV), p.cells[j]? = some c → flat c = true := by
  intro j c hc
  cases p with
  | agg cs => exact flatl_get (show flatl cs = true by simpa [flat] using hf) j c hc
  | tup cs => simp [PV.cells] at hc
  | _ =>
    simp only [PV.cells] at hc
    cases j with
    | zero => simp only [List.getElem?_cons_zero, Option.some.injEq] at hc; subst hc; exact hf
    | succ j => simp at hc

theorem handBack_ok (s : Sim M μ h w) (s2 : Sim M2 μ2 h2 w2) (g : Grow (frz M h μ w L) mu0 w M2 μ2 w2) {id : Nat} {r q : PV} {x : Value} {h' : Hp} (hx : Rep M2 μ2 r x) (e : handBack id L h h2 r = some (q, h')) :
    ∃ M' μ', Sim M' μ' h' w2 ∧ Grow M μ w M' μ' w2 ∧ Rep M' μ' q x := by
  unfold handBack at e
  split at e
  · rename_i len qs ex hm
    split at hm
    · rename_i j len'
      split at hm
      · rename_i es ex' hb
        split at hm
        · rename_i qs' l2 hp
          replace hm := bifF hm; obtain ⟨hj, hm⟩ := hm
          cases hm
          split at e
          · rename_i hh h1 hf
            obtain ⟨h3, hnew, e⟩ := mapOpt e
            cases e
            obtain ⟨hget, hset, _⟩ := Hp.get_new hnew
            cases hx with
            | own _ _ _ _ rj hr hcap =>
            obtain ⟨r', hr', arr, ety, b1, b2, b3, b4, b5, b6, b7⟩ := s2.blk j _ hb
            rw [hr] at hr'; cases hr'
            have hge : w.heap.size ≤ rj.b := by
              rcases g.fresh j rj hr with ⟨id0, r0, hr0, _⟩ | hge
              · simp [mu0] at hr0
              · exact hge
            have hlt : rj.b < w2.heap.size := (s2.use j rj hr).2
            obtain ⟨k1, k2⟩ := purl_get hp
            have nocell : ∀ (a : Addr) (v : Value), frz M2 h2 μ2 w2 l2 a = some v → a.block ≠ rj.b := by
              intro a v hv hab
              rcases frz_inv hv with hv | ⟨⟨id0, hid, r0, b0, hr0, hb0, hab0, _, hfc⟩, _⟩
              · have := s2.sep j rj _ a v hb hr trivial hv hab
                simp [SepOK] at this
              · have := s2.inj id0 j r0 rj b0 _ hr0 hr hb0 hb (by cases b0 <;> first | trivial | exact hfc.elim) trivial (by rw [← hab0, hab])
                subst this
                rw [List.any_eq_false] at hj
                exact hj id0 hid (by simp)
            have cellsOf : ∀ (i : Nat) (e' : PV) (m : Nat) (c : PV) (v : Value), qs[i]? = some e' → e'.cells[m]? = some c → arr[rj.base + i * rj.esz + m]? = some v → v.oneCell' = true ∧ Rep (frz M2 h2 μ2 w2 l2) mu0 c v := by
              intro i e' m c v hi hm hv
              have hil : i < es.length := by rw [← k1]; exact (List.getElem?_eq_some_iff.1 hi).1
              obtain ⟨q', l', a1, a2, a3⟩ := k2 i _ (List.getElem?_eq_getElem hil)
              rw [hi] at a2; cases a2
              obtain ⟨c1, c2⟩ := pur_cells a1
              have hml : m < (es[i]).cells.length := by rw [← c1]; exact (List.getElem?_eq_some_iff.1 hm).1
              obtain ⟨n', c', l'', d1, d2, d3, d4⟩ := c2 m _ (List.getElem?_eq_getElem hml)
              rw [hm] at d3; cases d3
              obtain ⟨o1, o2⟩ := b7 i _ m _ v (List.getElem?_eq_getElem hil) (List.getElem?_eq_getElem hml) hv
              exact ⟨o1, pur_ok s2 l2 n' _ _ l'' v d2 o2 fun y hy => a3 y (d4 y hy)⟩
            have lens : ∀ (i : Nat) (e' : PV), qs[i]? = some e' → e'.cells.length = rj.esz := by
              intro i e' hi
              have hil : i < es.length := by rw [← k1]; exact (List.getElem?_eq_some_iff.1 hi).1
              obtain ⟨q', l', a1, a2, a3⟩ := k2 i _ (List.getElem?_eq_getElem hil)
              rw [hi] at a2; cases a2
              rw [(pur_cells a1).1]; exact b6 i _ (List.getElem?_eq_getElem hil)
            have fin : ∀ {M' : Mem} {h1 : Hp}, Sim M' μ h1 w2 → Grow M μ w M' μ w2 → h1.get id = none → (∀ k, h'.get k = if k = id then some (.row qs ex false) else h1.get k) → (∀ a v, M' a = some v → a.block ≠ rj.b) →
                (∀ (i : Nat) (e' : PV) (m : Nat) (c : PV) (v : Value), qs[i]? = some e' → e'.cells[m]? = some c → arr[rj.base + i * rj.esz + m]? = some v → Rep M' mu0 c v) →
                ∃ M' μ', Sim M' μ' h' w2 ∧ Grow M μ w M' μ' w2 ∧ Rep M' μ' (.own id 0 len) (.slice (some ⟨rj.b, rj.base + 0 * rj.esz, none⟩) len (rj.cap - 0)) := by
              intro M' h1 sM gM hn he hno hrep
              have hne : ∀ k rk, μ k = some rk → rk.b ≠ rj.b := fun k rk hk => by have := (s.use k rk hk).2; omega
              obtain ⟨sA, hμ⟩ := sM.adopt (r := rj) hn he hlt hne hno ⟨arr, ety, b1, b2, by rw [k1]; exact b3, (fun hx => by rw [k1]; exact b4 hx), b5, lens, fun i e' m c v x y z => ⟨(cellsOf i e' m c v x y z).1, (hrep i e' m c v x y z).mono (.refl _) (.mu0 _)⟩⟩
              refine ⟨M', upd μ id rj, sA, ⟨gM.m, upd_le hμ, gM.only, ?_, gM.size, gM.keep, gM.os, gM.output, gM.tape, gM.nf⟩, ?_⟩
              · intro k rk hk
                unfold upd at hk
                split at hk
                · cases hk; exact .inr hge
                · exact .inl ⟨k, rk, hk, rfl⟩
              · exact .own (M := M') (upd μ id rj) id 0 len rj (by simp [upd]) hcap
            cases hfl : flatl qs with
            | true =>
              simp only [hfl, cond_true] at hf
              cases hf
              obtain ⟨j1, j2⟩ := join_flat s g
              refine fin j1 j2 hget hset (fun a v hv hab => ?_) fun i e' m c v x y z => ?_
              · have := s.mem_lt hv; omega
              · exact flat_rep (flat_cells (flatl_get hfl i e' x) m c y) _ _ (cellsOf i e' m c v x y z).2
            | false =>
              simp only [hfl, cond_false] at hf
              obtain ⟨M', j1, j2, j3, j4⟩ := join_mem s s2 g hf l2
              refine fin j1 j2 hget hset (fun a v hv hab => ?_) fun i e' m c v x y z => (cellsOf i e' m c v x y z).2.mono j3 (.refl _)
              exact nocell a v (j4 a v hv (by omega)) hab
          · cases e
        · cases hm
      · cases hm
    · cases hm
  · split at e
    · rename_i q' l2 hq
      cases hfl : flat q' with
      | true =>
        simp only [hfl, cond_true] at e
        cases e
        obtain ⟨j1, j2⟩ := join_flat s g
        exact ⟨M, μ, j1, j2, flat_rep hfl M μ (pur_ok s2 l2 _ _ _ _ _ hq hx (fun _ h => h))⟩
      | false =>
        simp only [hfl, cond_false] at e
        obtain ⟨h1, hf, e⟩ := mapOpt e
        cases e
        obtain ⟨M', j1, j2, j3⟩ := join_data s s2 g hf hq hx
        exact ⟨M', μ, j1, j2, j3⟩
    · cases e
end
end
end Go.Proofs.YtfecnejgdafbcaaGreatDoor.Pi
