/- A part of the evaluator of the model's code and of its soundness, for any program. No condition. -/
import Derived.Test.YtfecnejgdafbcaaGreatDoorPiD
namespace Go.Proofs.YtfecnejgdafbcaaGreatDoor.Pi
set_option linter.all false
variable [Gl]
section
variable {P : Program} {M : Mem} {μ : Mu} {h : Hp} {w : World}

/-- what the evaluator's answer says of the run of one operation -/
def Says (P : Program) (M : Mem) (μ : Mu) (w : World) (res : Result Next) : R → Prop
  | .val v h' => ∃ M' μ' w' x, res = .ok (.value x) w' ∧ Sim M' μ' h' w' ∧ Grow M μ w M' μ' w' ∧ Rep M' μ' v x
  | .skip h' => ∃ M' μ' w', res = .ok .skip w' ∧ Sim M' μ' h' w' ∧ Grow M μ w M' μ' w'
  | .call f args => ∃ vs : List Value, res = .ok (.enter f vs.toArray) w ∧ RepL M μ args vs ∧ ∃ fn c, P.funcs[f]? = some fn ∧ fn.body = some c
  | .yield id args => ∃ (vs : List Value) (r : Bk), μ id = some r ∧ res = (Instr.yield r.b vs.toArray).run P w ∧ RepL M μ args vs
  | .pan v => ∃ x, res = .halt (.panic x) w ∧ Rep M μ v x
  | .rcv => res = .ok .recover w
  | .dfr d => ∃ D, res = .ok (.defer D) w ∧ DefRep M μ d D
theorem says_val (s : Sim M μ h w) {v : PV} {x : Value} {sem : Sem Value} (e : sem.run P w = .ok x w) (hr : Rep M μ v x) :
    Says P M μ w ((do pure (.value (← sem)) : Sem Next).run P w) (.val v h) :=
  ⟨M, μ, w, x, by simp [e], s, .refl _ _ _, hr⟩
theorem vl_ok {o : Option PV} {r : R} (e : vl o h = some r) : ∃ v, o = some v ∧ r = .val v h := by
  unfold vl at e
  cases o with
  | none => cases e
  | some v => cases e; exact ⟨v, rfl, rfl⟩

theorem load_ok (s : Sim M μ h w) {ty : TypeId} {p : PV} {x : Value} (hx : Rep M μ p x) {r : R}
    (e : evLoad P h ty p = some r) : Says P M μ w ((do pure (.value (← Instr.loadAt ty x)) : Sem Next).run P w) r := by
  unfold evLoad at e
  split at e
  · rename_i j off
    split at e
    · rename_i cs fz hb
      obtain ⟨v, hv, rfl⟩ := vl_ok e
      cases hx with
      | ptr _ _ _ r hr =>
        obtain ⟨r', hr', hc⟩ := ptr_cells s (off := off) hb
        rw [hr] at hr'; cases hr'
        obtain ⟨y, hy, hry⟩ := loadVar_ok hc hv
        exact says_val s (by simp [Instr.loadAt, Instr.sureAddr, hy]) hry
    · cases e
  · rename_i cs
    obtain ⟨v, hv, rfl⟩ := vl_ok e
    cases hx with
    | view _ _ b off x hm h1 hr =>
      obtain ⟨y, hy, hry⟩ := loadVar_ok (view_cells s hm h1 hr) hv
      exact says_val s (by simp [Instr.loadAt, Instr.sureAddr, hy]) hry
  · rename_i j i off
    split at e
    · rename_i es ex fz hb
      split at e
      · rename_i el he
        rw [lget_eq] at he
        obtain ⟨v, hv, rfl⟩ := vl_ok e
        cases hx with
        | ept _ _ _ _ r hr =>
          obtain ⟨r', hr', hc⟩ := ept_cells s (off := off) hb he
          rw [hr] at hr'; cases hr'
          obtain ⟨y, hy, hry⟩ := loadVar_ok hc hv
          exact says_val s (by simp [Instr.loadAt, Instr.sureAddr, hy]) hry
      · cases e
    · cases e
  · cases e

theorem notTup_of_len {v : PV} {n : Nat} (h : v.cells.length = n) (hn : 0 < n) : ∀ cs, v ≠ .tup cs := by
  intro cs e; subst e; simp [PV.cells] at h; omega

/-- a store into a box -/
theorem store_box (s : Sim M μ h w) {j off : Nat} {cs : List PV} {v : PV} {x : Value} {ty n : Nat} {h' : Hp} {r : Bk} (hr : μ j = some r) (hb : h.get j = some (.box cs false))
    (hx : Rep M μ v x) (hsz : tsize P ty = some n) (hn : v.cells.length = n) (hn0 : 0 < n) (hle : off + n ≤ cs.length) (hs : h.set j (.box (lput cs off v.cells) false) = some h') :
    Says P M μ w ((do Instr.storeAt ty (.pointer (some ⟨r.b, r.base + off, none⟩)) x; pure .skip : Sem Next).run P w) (.skip h') := by
  obtain ⟨r', hr', h0, arr, ety, h1, h2, h3, h4⟩ := s.blk j _ hb
  rw [hr] at hr'; cases hr'
  obtain ⟨hc, hone⟩ := hx.cells (notTup_of_len hn hn0)
  have hlen : x.cells.toList.length = n := by rw [← hc.1]; exact hn
  have hlen' : x.cells.size = n := by simpa using hlen
  obtain ⟨w', arr', hrun, k1, k2, k3, k4, k5, k6, k7, k8, k9⟩ := storeCells_ok (P := P) (ty := ety) x.cells.toList w arr off 0 h1 (by rw [hlen, h2]; omega)
    (fun y hy => by obtain ⟨i, hi⟩ := List.mem_iff_getElem?.1 hy; exact hone i y (by simpa using hi))
  refine ⟨M, μ, w', ?_, ?_, Grow.update hr k4 k5 k6 k7 k8 (fun arr ty f h => by rw [k1] at h; cases h; rfl)⟩
  · simp only [h0, Nat.zero_add]
    simp [Instr.storeAt, Instr.sureAddr, storeVar, tsize_ok hsz, hlen', hrun]
  · refine s.update hb hr trivial (Hp.get_set hs).1 k4 k5 ?_ ?_
    · refine ⟨h0, arr', ety, k1, ?_, ?_, ?_⟩
      · rw [k2, h2, lput_length]; rw [hn]; omega
      · intro i y hy
        rw [k3] at hy
        split at hy
        · exact hone _ y (by simpa using hy)
        · exact h3 i y hy
      · intro i c y hi hy
        rw [lput_get _ _ _ (by rw [hn]; omega)] at hi
        rw [k3] at hy
        rw [hlen] at hy
        rw [hn] at hi
        simp only [Nat.add_zero] at hy
        by_cases hin : off ≤ i ∧ i < off + n
        · rw [if_pos hin] at hi hy; exact hc.2 _ c y hi hy
        · rw [if_neg hin] at hi hy; exact h4 i c y hi hy
    · intro a y hm ha
      have := s.sep j r _ a y hb hr trivial hm ha
      exact absurd this (by simp [SepOK])

theorem mul_lt_row {i k j j' z : Nat} (hj : j < z) (hj' : j' < z) (e : i * z + j = k * z + j') : i = k ∧ j = j' := by
  have hz : 0 < z := by omega
  have h1 : (i * z + j) / z = i := by rw [Nat.mul_comm, Nat.mul_add_div hz]; simp [Nat.div_eq_of_lt hj]
  have h2 : (k * z + j') / z = k := by rw [Nat.mul_comm, Nat.mul_add_div hz]; simp [Nat.div_eq_of_lt hj']
  rw [e, h2] at h1
  subst h1
  exact ⟨rfl, by omega⟩
/-- a store into an element of a row -/
theorem store_row (s : Sim M μ h w) {j i off : Nat} {es : List PV} {ex : Bool} {el el' : PV} {v : PV} {x : Value} {ty n : Nat} {h' : Hp} {r : Bk} (hr : μ j = some r) (hb : h.get j = some (.row es ex false))
    (he : es[i]? = some el) (hel' : el'.cells = lput el.cells off v.cells)
    (hx : Rep M μ v x) (hsz : tsize P ty = some n) (hn : v.cells.length = n) (hn0 : 0 < n) (hle : off + n ≤ el.cells.length) (hs : h.set j (.row (lset es i el') ex false) = some h') :
    Says P M μ w ((do Instr.storeAt ty (.pointer (some ⟨r.b, r.base + i * r.esz + off, none⟩)) x; pure .skip : Sem Next).run P w) (.skip h') := by
  obtain ⟨r', hr', arr, ety, h1, h2, h3, h4, h5, h6, h7⟩ := s.blk j _ hb
  rw [hr] at hr'; cases hr'
  obtain ⟨hc, hone⟩ := hx.cells (notTup_of_len hn hn0)
  have hlen : x.cells.toList.length = n := by rw [← hc.1]; exact hn
  have hlen' : x.cells.size = n := by simpa using hlen
  have hi : i < es.length := (List.getElem?_eq_some_iff.1 he).1
  have hesz := h6 i el he
  have hin : r.base + i * r.esz + (off + n - 1) < arr.size := row_in h3 h2 he hesz (by omega)
  obtain ⟨w', arr', hrun, k1, k2, k3, k4, k5, k6, k7, k8, k9⟩ := storeCells_ok (P := P) (ty := ety) x.cells.toList w arr (r.base + i * r.esz + off) 0 h1 (by rw [hlen]; omega)
    (fun y hy => by obtain ⟨i, hi⟩ := List.mem_iff_getElem?.1 hy; exact hone i y (by simpa using hi))
  have hl' : el'.cells.length = el.cells.length := by rw [hel', lput_length]; omega
  refine ⟨M, μ, w', ?_, ?_, Grow.update hr k4 k5 k6 k7 k8 (fun arr ty f h => by rw [k1] at h; cases h; rfl)⟩
  · simp [Instr.storeAt, Instr.sureAddr, storeVar, tsize_ok hsz, hlen', hrun]
  · refine s.update hb hr trivial (Hp.get_set hs).1 k4 k5 ?_ ?_
    · refine ⟨arr', ety, k1, by omega, by simpa [lset_eq] using h3, by simpa [lset_eq] using h4, h5, ?_, ?_⟩
      · intro k e hk
        rw [lset_eq, List.getElem?_set] at hk
        by_cases hik : i = k
        · rw [if_pos hik, if_pos hi] at hk; cases hk; rw [hl']; exact hesz
        · rw [if_neg hik] at hk; exact h6 k e hk
      · intro k e m c y hk hc2 hy
        have hm : m < r.esz := by
          rw [lset_eq, List.getElem?_set] at hk
          have := (List.getElem?_eq_some_iff.1 hc2).1
          by_cases hik : i = k
          · rw [if_pos hik, if_pos hi] at hk; cases hk; omega
          · rw [if_neg hik] at hk; have := h6 k e hk; omega
        rw [lset_eq, List.getElem?_set] at hk
        rw [k3, hlen] at hy
        simp only [Nat.add_zero] at hy
        by_cases hik : i = k
        · rw [if_pos hik, if_pos hi] at hk; cases hk; subst hik
          rw [hel', lput_get _ _ _ (by omega), hn] at hc2
          by_cases hin2 : off ≤ m ∧ m < off + n
          · rw [if_pos hin2] at hc2
            rw [if_pos (by omega)] at hy
            have e1 : r.base + i * r.esz + m - (r.base + i * r.esz + off) = m - off := by omega
            rw [e1] at hy
            exact ⟨hone (m - off) y (by simpa using hy), hc.2 _ c y hc2 hy⟩
          · rw [if_neg hin2] at hc2
            rw [if_neg (by omega)] at hy
            exact h7 i el m c y he hc2 hy
        · rw [if_neg hik] at hk
          rw [if_neg ?_] at hy
          · exact h7 k e m c y hk hc2 hy
          · intro hcon
            have hd : ∃ d, d < r.esz ∧ r.base + k * r.esz + m = r.base + i * r.esz + d := ⟨r.base + k * r.esz + m - (r.base + i * r.esz), by omega, by omega⟩
            obtain ⟨d, hd1, hd2⟩ := hd
            exact hik (mul_lt_row (i := k) (k := i) hm hd1 (by omega)).1.symm
    · intro a y hm ha
      have := s.sep j r _ a y hb hr trivial hm ha
      exact absurd this (by simp [SepOK])

/-- a new variable -/
theorem newBox_ok (s : Sim M μ h w) {id : Nat} {cs : List PV} {arr : Array Value} {ty : TypeId} {h' : Hp} (hr : RepL M μ cs arr.toList) (h1 : ∀ (i : Nat) (v : Value), arr[i]? = some v → v.oneCell' = true)
    (hn : h.new id (.box cs false) = some h') :
    Says P M μ w ((do pure (.value (← (do pure (.pointer (some (← newRow ty arr))) : Sem Value))) : Sem Next).run P w) (.val (.ptr id 0) h') := by
  obtain ⟨hget, hset, _⟩ := Hp.get_new hn
  have hμ : μ id = none := by
    cases hm : μ id with
    | none => rfl
    | some x => exact absurd hget (s.use id x hm).1
  have hS := s.fresh (w' := w.alloc (.cells arr ty)) (r := ⟨w.heap.size, 0, 0, 0⟩) (o := .cells arr ty (0, 0)) hget hset rfl rfl
    ⟨rfl, arr, ty, rfl, by simpa using hr.1.symm, h1, fun i c v hc hv => (hr.2 i c v hc (by simpa using hv)).mono (.refl _) (upd_le hμ)⟩
  refine ⟨M, upd μ id ⟨w.heap.size, 0, 0, 0⟩, w.alloc (.cells arr ty), .pointer (some ⟨w.heap.size, 0, none⟩), ?_, hS.1, Grow.newBlk hμ rfl rfl rfl rfl rfl (fun _ _ _ h => by cases h; rfl), ?_⟩
  · simp [newRow]
  · exact .ptr _ _ _ ⟨w.heap.size, 0, 0, 0⟩ (by simp [upd])

/-! composite literals -/
theorem foldl_set (x : Array Value) (off : Nat) : ∀ (n : Nat) (l : List (Value × Nat)) (cells : Array Value), (∀ i v, l[i]? = some v → v.2 = n + i) →
    (l.foldl (fun cs (p : Value × Nat) => cs.setIfInBounds (off + p.2) p.1) cells).size = cells.size ∧
    ∀ k, off + n + l.length ≤ cells.size → (l.foldl (fun cs (p : Value × Nat) => cs.setIfInBounds (off + p.2) p.1) cells)[k]? = if off + n ≤ k ∧ k < off + n + l.length then (l[k - (off + n)]?).map (·.1) else cells[k]?
  | n, [], cells, _ => ⟨rfl, fun k _ => by simp; intro a b; omega⟩
  | n, p :: l, cells, hl => by
    have h0 := hl 0 p rfl
    have ih := foldl_set x off (n + 1) l (cells.setIfInBounds (off + p.2) p.1) (fun i v hv => by have := hl (i + 1) v (by simpa using hv); omega)
    simp only [List.foldl_cons]
    refine ⟨by rw [ih.1]; simp, fun k hk => ?_⟩
    simp only [List.length_cons] at hk ⊢
    rw [ih.2 k (by simp; omega)]
    by_cases h1 : off + (n + 1) ≤ k ∧ k < off + (n + 1) + l.length
    · rw [if_pos h1, if_pos (by omega)]
      have : k - (off + n) = (k - (off + (n + 1))) + 1 := by omega
      rw [this, List.getElem?_cons_succ]
    · rw [if_neg h1, Array.getElem?_setIfInBounds, h0]
      by_cases h2 : off + (n + 0) = k
      · rw [if_pos h2, if_pos (by omega), if_pos (by omega)]; subst h2; simp
      · rw [if_neg h2, if_neg (by omega)]
theorem zipIdx_fold (x : Array Value) (off : Nat) (cells : Array Value) (hle : off + x.size ≤ cells.size) (k : Nat) :
    (x.zipIdx.foldl (fun cs (p : Value × Nat) => cs.setIfInBounds (off + p.2) p.1) cells)[k]? = if off ≤ k ∧ k < off + x.size then x[k - off]? else cells[k]? := by
  rw [← Array.foldl_toList]
  have := (foldl_set x off 0 x.zipIdx.toList cells (fun i v hv => by simp at hv; obtain ⟨a, ha, rfl⟩ := hv; simp)).2 k (by simp; omega)
  rw [this]
  simp
  split
  · cases x[k - off]? <;> rfl
  · rfl
theorem zipIdx_fold_size (x : Array Value) (off : Nat) (cells : Array Value) :
    (x.zipIdx.foldl (fun cs (p : Value × Nat) => cs.setIfInBounds (off + p.2) p.1) cells).size = cells.size := by
  rw [← Array.foldl_toList]
  exact (foldl_set x off 0 x.zipIdx.toList cells (fun i v hv => by simp at hv; obtain ⟨a, ha, rfl⟩ := hv; simp)).1

/-- parts in order, each with its place -/
inductive PartsAt (M : Mem) (μ : Mu) (place : Nat → Option (Nat × Nat)) : List (Nat × Value) → List (Nat × Nat × List PV) → Prop
  | nil : PartsAt M μ place [] []
  | cons (i : Nat) (v : Value) (p : PV) (off n : Nat) (l : List (Nat × Value)) (m : List (Nat × Nat × List PV)) (hp : place i = some (off, n)) (hr : Rep M μ p v) (hn : 0 < n)
      (h : PartsAt M μ place l m) : PartsAt M μ place ((i, v) :: l) ((off, n, p.cells) :: m)
theorem fill_ok {place : Nat → Option (Nat × Nat)} {l : List (Nat × Value)} {m : List (Nat × Nat × List PV)} (hp : PartsAt M μ place l m) :
    ∀ {cs cs' : List PV} {cells : Array Value}, RepL M μ cs cells.toList → (∀ (i : Nat) (v : Value), cells[i]? = some v → v.oneCell' = true) → fillP cs m = some cs' →
      ∃ cells', Instr.fill place cells l = some cells' ∧ RepL M μ cs' cells'.toList ∧ (∀ (i : Nat) (v : Value), cells'[i]? = some v → v.oneCell' = true) := by
  induction hp with
  | nil => intro cs cs' cells hr h1 e; simp [fillP] at e; subst e; exact ⟨cells, by simp [Instr.fill], hr, h1⟩
  | cons i v p off n l m hpl hrp hn0 _ ih =>
    intro cs cs' cells hr h1 e
    unfold fillP at e
    cases hc : (Nat.beq p.cells.length n && Nat.ble (off + n) cs.length) with
    | false => rw [hc] at e; cases e
    | true =>
      rw [hc] at e
      simp at hc
      obtain ⟨hc1, hc2⟩ := hc
      obtain ⟨hcl, hone⟩ := hrp.cells (notTup_of_len hc1 hn0)
      have hsz : v.cells.size = n := by have := hcl.1; rw [hc1] at this; simpa using this.symm
      have hcells : cells.size = cs.length := by simpa using hr.1.symm
      have hle : off + v.cells.size ≤ cells.size := by omega
      have a1 : RepL M μ (lput cs off p.cells) (v.cells.zipIdx.foldl (fun cs (p : Value × Nat) => cs.setIfInBounds (off + p.2) p.1) cells).toList := by
        refine ⟨?_, fun k c y hk hy => ?_⟩
        · rw [lput_length _ _ _ (by omega)]
          exact hcells.symm.trans ((zipIdx_fold_size v.cells off cells).symm.trans (Array.length_toList (xs := _)).symm)
        · rw [lput_get _ _ _ (by omega)] at hk
          simp only [Array.getElem?_toList] at hy
          rw [zipIdx_fold _ _ _ hle, hsz] at hy
          rw [hc1] at hk
          by_cases hin : off ≤ k ∧ k < off + n
          · rw [if_pos hin] at hk hy; exact hcl.2 _ c y hk (by simpa using hy)
          · rw [if_neg hin] at hk hy; exact hr.2 k c y hk (by simpa using hy)
      have a2 : ∀ (i : Nat) (y : Value), (v.cells.zipIdx.foldl (fun cs (p : Value × Nat) => cs.setIfInBounds (off + p.2) p.1) cells)[i]? = some y → y.oneCell' = true := by
        intro k y hy
        rw [zipIdx_fold _ _ _ hle] at hy
        split at hy
        · exact hone _ y hy
        · exact h1 k y hy
      obtain ⟨cells', hf, hr', h1'⟩ := ih a1 a2 e
      refine ⟨cells', ?_, hr', h1'⟩
      unfold Instr.fill
      rw [hpl]
      simp only [hsz]
      rw [if_neg (by simp; omega)]
      exact hf
end
end Go.Proofs.YtfecnejgdafbcaaGreatDoor.Pi
