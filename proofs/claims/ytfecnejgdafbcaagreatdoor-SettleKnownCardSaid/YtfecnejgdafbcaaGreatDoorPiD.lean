/- A part of the evaluator of the model's code and of its soundness, for any program. No condition. -/
import Derived.Test.YtfecnejgdafbcaaGreatDoorPiC
namespace Go.Proofs.YtfecnejgdafbcaaGreatDoor.Pi
set_option linter.all false
variable [Gl]
/-! Operations: what the evaluator says of one is what the model runs. -/
section
variable {P : Program} {M : Mem} {μ : Mu} {h : Hp} {w : World}

theorem mapOpt {α β : Type} {o : Option α} {f : α → β} {b : β} (e : o.map f = some b) : ∃ a, o = some a ∧ f a = b := by
  cases o with
  | none => cases e
  | some a => exact ⟨a, rfl, by simpa using e⟩
theorem evs_ok {t : T PV} {nt : Nat} {a : Act} {o : Operand} {p : PV} (gl : GlOK M) (ht : TmpsRep M μ t nt a.tmps) (e : evs t o = some p) : Rep M μ p (a.eval o) := by
  cases o with
  | tmp k => simp only [evs, Option.some.injEq] at e; subst e; exact ht.2.2 k
  | const v => exact ofVal_ok e M μ
  | global g =>
    obtain ⟨cs, hc, rfl⟩ := mapOpt e
    obtain ⟨x, h1, h2, h3⟩ := gl g cs hc
    have : (fun j => (⟨g, 0 + j, none⟩ : Addr)) = fun j => ⟨g, j, none⟩ := by funext j; rw [Nat.zero_add]
    exact .view _ cs g 0 x (fun j c h => by rw [Nat.zero_add]; exact h1 j c h) h2 h3
  | func f =>
    simp only [evs, Option.some.injEq] at e; subst e
    exact .fn _ _ [] [] #[] #[] (by intro l hl; cases hl) rfl rfl (fun i c v h => by simp at h) (fun i c v h => by simp at h)
theorem evl_ok {t : T PV} {nt : Nat} {a : Act} (gl : GlOK M) (ht : TmpsRep M μ t nt a.tmps) : ∀ {l : List Operand} {ps : List PV}, evl t l = some ps → RepL M μ ps (l.map a.eval)
  | [], ps, e => by cases e; exact RepL.nil _ _
  | o :: l, ps, e => by
    unfold evl at e
    split at e
    · rename_i p q hp hq; cases e; exact RepL.cons (evs_ok gl ht hp) (evl_ok gl ht hq)
    · cases e

/-- cells that lie in the world from an address on -/
def CellsAt (M : Mem) (μ : Mu) (w : World) (b off : Nat) (cs : List PV) : Prop :=
  ∀ (j : Nat) (c : PV), cs[j]? = some c → ∃ x, w.cell? ⟨b, off + j, none⟩ = some x ∧ x.oneCell' = true ∧ Rep M μ c x
theorem add_none (b off n : Nat) : (⟨b, off, none⟩ : Addr).add n = ⟨b, off + n, none⟩ := by
  unfold Addr.add; split <;> simp_all
theorem loadVar_ok {ty : TypeId} {b off : Nat} {cs : List PV} {p : PV} (hc : CellsAt M μ w b off cs) (e : Pi.part P ty cs = some p) :
    ∃ v, (loadVar ty ⟨b, off, none⟩).run P w = .ok v w ∧ Rep M μ p v := by
  unfold Pi.part at e
  split at e
  · rename_i n hag hsz
    cases hb : Nat.ble n cs.length with
    | false => rw [hb] at e; cases e
    | true =>
      rw [hb] at e; cases e
      have hn : n ≤ cs.length := Nat.le_of_ble_eq_true hb
      have hex : ∃ f : Nat → Value, ∀ j, j < n → w.cell? ⟨b, off + j, none⟩ = some (f j) ∧ (f j).oneCell' = true ∧ ∀ c, cs[j]? = some c → Rep M μ c (f j) := by
        have : ∀ j, ∃ x : Value, j < n → w.cell? ⟨b, off + j, none⟩ = some x ∧ x.oneCell' = true ∧ ∀ c, cs[j]? = some c → Rep M μ c x := by
          intro j
          by_cases hj : j < n
          · obtain ⟨x, h1, h2, h3⟩ := hc j cs[j] (List.getElem?_eq_getElem (by omega))
            exact ⟨x, fun _ => ⟨h1, h2, fun c hcj => by rw [List.getElem?_eq_getElem (by omega)] at hcj; cases hcj; exact h3⟩⟩
          · exact ⟨undef, fun h => absurd h hj⟩
        exact ⟨fun j => Classical.choose (this j), fun j hj => Classical.choose_spec (this j) hj⟩
      obtain ⟨f, hf⟩ := hex
      refine ⟨.agg ((List.range n).map f).toArray, ?_, ?_⟩
      · have hl := run_loadCells (P := P) w ⟨b, off, none⟩ n f (fun j hj => by rw [add_none]; exact (hf j hj).1)
        simp [loadVar, tagg_ok hag, tsize_ok hsz, hl]
      · refine .agg _ _ _ (by simp; omega) (fun i v hv => ?_) (fun i c v hci hv => ?_)
        · simp at hv
          obtain ⟨k, hk, rfl⟩ := hv
          obtain ⟨h1, rfl⟩ := List.getElem?_eq_some_iff.1 hk
          simp at h1
          simpa using (hf _ (by simpa using h1)).2.1
        · simp at hv
          obtain ⟨k, hk, rfl⟩ := hv
          obtain ⟨h1, rfl⟩ := List.getElem?_eq_some_iff.1 hk
          simp at h1
          rw [List.getElem?_take, if_pos h1] at hci
          simpa using (hf _ h1).2.2 c hci
  · rename_i n hag hsz
    split at e
    · rename_i c cs'
      cases e
      obtain ⟨x, h1, _, h3⟩ := hc 0 p rfl
      exact ⟨x, by simp [loadVar, tagg_ok hag]; simp only [Nat.add_zero] at h1; simp [h1], h3⟩
    · cases e
  · cases e

/-- a list of cells stored from a place of a block on -/
theorem storeCells_ok {b : Nat} {ty : TypeId} (vs : List Value) : ∀ (w : World) (arr : Array Value) (off i : Nat), w.heap[b]? = some (.cells arr ty (0, 0)) → off + i + vs.length ≤ arr.size → (∀ v ∈ vs, v.oneCell' = true) →
    ∃ w' arr', (storeCells ⟨b, off, none⟩ vs i).run P w = .ok () w' ∧ w'.heap[b]? = some (.cells arr' ty (0, 0)) ∧ arr'.size = arr.size ∧
      (∀ j, arr'[j]? = if off + i ≤ j ∧ j < off + i + vs.length then vs[j - (off + i)]? else arr[j]?) ∧ (∀ k, k ≠ b → w'.heap[k]? = w.heap[k]?) ∧ w'.heap.size = w.heap.size ∧
      w'.os = w.os ∧ w'.output = w.output ∧ w'.tape = w.tape ∧ w'.drawn = w.drawn := by
  induction vs with
  | nil =>
    intro w arr off i hb _ _
    exact ⟨w, arr, by simp [storeCells], hb, rfl, fun j => by simp; intro a b; omega, fun _ _ => rfl, rfl, rfl, rfl, rfl, rfl⟩
  | cons v vs ih =>
    intro w arr off i hb hle h1
    simp only [List.length_cons] at hle
    have hin : off + i < arr.size := by omega
    have hcell : w.cell? ⟨b, off + i, none⟩ = some arr[off + i] := by
      rw [cell?_eq (a := ⟨b, off + i, none⟩) hb rfl]; exact Array.getElem?_eq_getElem hin
    have hfr : w.frozen? ⟨b, off + i, none⟩ = false := by simp [World.frozen?, hb]
    have hv1 : v.oneCell' = true := h1 v (by simp)
    have hst : (store ⟨b, off + i, none⟩ v).run P w = .ok () (w.setCell ⟨b, off + i, none⟩ v) := by
      rw [run_store _ _ _ _ _ hv1, hcell]; simp [hfr]
    have hb' : (w.setCell ⟨b, off + i, none⟩ v).heap[b]? = some (.cells (arr.setIfInBounds (off + i) v) ty (0, 0)) := heap_setCell_same w b (off + i) arr ty v hb
    obtain ⟨w', arr', hr, h2, h3, h4, h5, h6, h7, h8, h9, h10⟩ := ih (w.setCell ⟨b, off + i, none⟩ v) _ off (i + 1) hb' (by simp; omega) (fun x hx => h1 x (by simp [hx]))
    refine ⟨w', arr', ?_, h2, by rw [h3]; simp, fun j => ?_, fun k hk => ?_, by rw [h6]; simp, by rw [h7]; rfl, by rw [h8]; rfl, by rw [h9]; rfl, by rw [h10]; rfl⟩
    · simp only [storeCells, Sem.run_bind, add_none, hst, Result.andThen, hr]
    · rw [h4 j]
      by_cases hj : off + (i + 1) ≤ j ∧ j < off + (i + 1) + vs.length
      · rw [if_pos hj, if_pos (by simp; omega)]
        have : j - (off + i) = (j - (off + (i + 1))) + 1 := by omega
        rw [this, List.getElem?_cons_succ]
      · rw [if_neg hj, Array.getElem?_setIfInBounds]
        by_cases hji : off + i = j
        · rw [if_pos hji, if_pos (by omega), if_pos (by simp; omega)]; subst hji; simp
        · rw [if_neg hji, if_neg (by simp; omega)]
    · rw [h5 k hk]; exact heap_setCell_other w _ k v (by simpa using hk)

theorem lput_get (cs : List PV) (off : Nat) (x : List PV) (hle : off + x.length ≤ cs.length) (j : Nat) :
    (lput cs off x)[j]? = if off ≤ j ∧ j < off + x.length then x[j - off]? else cs[j]? := by
  unfold lput
  rw [List.getElem?_append, List.length_take, Nat.min_eq_left (by omega)]
  by_cases h1 : j < off
  · rw [if_pos h1, if_neg (by omega), List.getElem?_take, if_pos h1]
  · rw [if_neg h1, List.getElem?_append]
    by_cases h2 : j - off < x.length
    · rw [if_pos h2, if_pos (by omega)]
    · rw [if_neg h2, if_neg (by omega), List.getElem?_drop]; congr 1; omega
theorem lput_length (cs : List PV) (off : Nat) (x : List PV) (hle : off + x.length ≤ cs.length) : (lput cs off x).length = cs.length := by
  unfold lput; simp; omega
theorem lget_eq {α : Type} : ∀ (l : List α) (k : Nat), lget l k = l[k]?
  | [], k => by simp [lget]
  | a :: l, 0 => by simp [lget]
  | a :: l, k + 1 => by simp [lget, nbeqF (Nat.succ_ne_zero k), lget_eq l k]
theorem lset_eq {α : Type} : ∀ (l : List α) (k : Nat) (x : α), lset l k x = l.set k x
  | [], k, x => by simp [lset]
  | a :: l, 0, x => by simp [lset]
  | a :: l, k + 1, x => by simp [lset, nbeqF (Nat.succ_ne_zero k), lset_eq l k x]

/-- where a pointer leads -/
theorem ptr_cells (s : Sim M μ h w) {j off : Nat} {cs : List PV} {fz : Bool} (hb : h.get j = some (.box cs fz)) : ∃ r, μ j = some r ∧ CellsAt M μ w r.b (r.base + off) (cs.drop off) := by
  obtain ⟨r, hr, h0, arr, ty, h1, h2, h3, h4⟩ := s.blk j _ hb
  refine ⟨r, hr, fun k c hk => ?_⟩
  rw [List.getElem?_drop] at hk
  have hlt : off + k < arr.size := by rw [h2]; exact (List.getElem?_eq_some_iff.1 hk).1
  refine ⟨arr[off + k], ?_, h3 _ _ (Array.getElem?_eq_getElem hlt), h4 _ _ _ hk (Array.getElem?_eq_getElem hlt)⟩
  rw [cell?_eq (a := ⟨r.b, r.base + off + k, none⟩) h1 rfl, h0, Nat.zero_add]
  exact Array.getElem?_eq_getElem hlt
theorem row_in {r : Bk} {es : List PV} {i : Nat} {e : PV} {j n : Nat} (hcap : es.length ≤ r.cap) (hn : r.base + r.cap * r.esz ≤ n) (he : es[i]? = some e) (hl : e.cells.length = r.esz) (hj : j < e.cells.length) : r.base + i * r.esz + j < n := by
  have hi : i < es.length := (List.getElem?_eq_some_iff.1 he).1
  have : (i + 1) * r.esz ≤ r.cap * r.esz := Nat.mul_le_mul_right _ (by omega)
  rw [Nat.add_mul] at this
  omega
theorem ept_cells (s : Sim M μ h w) {j i off : Nat} {es : List PV} {ex fz : Bool} {e : PV} (hb : h.get j = some (.row es ex fz)) (he : es[i]? = some e) : ∃ r, μ j = some r ∧ CellsAt M μ w r.b (r.base + i * r.esz + off) (e.cells.drop off) := by
  obtain ⟨r, hr, arr, ty, h1, h2, h3, h4, h5, h6, h7⟩ := s.blk j _ hb
  refine ⟨r, hr, fun k c hk => ?_⟩
  rw [List.getElem?_drop] at hk
  have hk' := (List.getElem?_eq_some_iff.1 hk).1
  have hlt : r.base + i * r.esz + (off + k) < arr.size := row_in h3 h2 he (h6 i e he) hk'
  have hg := Array.getElem?_eq_getElem hlt
  have := h7 i e (off + k) c _ he hk hg
  refine ⟨_, ?_, this.1, this.2⟩
  rw [cell?_eq (a := ⟨r.b, r.base + i * r.esz + off + k, none⟩) h1 rfl, Nat.add_assoc (r.base + i * r.esz) off k]
  exact hg
theorem view_cells (s : Sim M μ h w) {cs : List PV} {b off : Nat} {x : Nat → Value}
    (hm : ∀ (j : Nat) (c : PV), cs[j]? = some c → M ⟨b, off + j, none⟩ = some (x j)) (h1 : ∀ (j : Nat) (c : PV), cs[j]? = some c → (x j).oneCell' = true)
    (hr : ∀ (j : Nat) (c : PV), cs[j]? = some c → Rep M mu0 c (x j)) : CellsAt M μ w b off cs :=
  fun j c hj => ⟨x j, (s.mem _ _ (hm j c hj)).2, h1 j c hj, (hr j c hj).mono (.refl _) (.mu0 _)⟩
end
end Go.Proofs.YtfecnejgdafbcaaGreatDoor.Pi
