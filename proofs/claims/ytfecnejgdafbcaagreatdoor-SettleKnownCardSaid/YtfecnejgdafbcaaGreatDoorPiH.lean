/- A part of the evaluator of the model's code and of its soundness, for any program. No condition. -/
import Derived.Test.YtfecnejgdafbcaaGreatDoorPiG
namespace Go.Proofs.YtfecnejgdafbcaaGreatDoor.Pi
set_option linter.all false
variable [Gl]
section
variable {P : Program} {M : Mem} {μ : Mu} {h : Hp} {w : World}

inductive PsRep (M : Mem) (μ : Mu) : List (Nat × PV) → List (Nat × Value) → Prop
  | nil : PsRep M μ [] []
  | cons (i : Nat) (p : PV) (v : Value) (ps : List (Nat × PV)) (vs : List (Nat × Value)) (h : Rep M μ p v) (t : PsRep M μ ps vs) : PsRep M μ ((i, p) :: ps) ((i, v) :: vs)
theorem partsOf_ok {t : T PV} {nt : Nat} {a : Act} (gl : GlOK M) (ht : TmpsRep M μ t nt a.tmps) : ∀ {l : List (Nat × Operand)} {ps : List (Nat × PV)}, partsOf t l = some ps → PsRep M μ ps (l.map fun (i, x) => (i, a.eval x))
  | [], ps, e => by cases e; exact .nil
  | (i, o) :: l, ps, e => by
    unfold partsOf at e
    split at e
    · rename_i p q hp hq; cases e; exact .cons _ _ _ _ _ (evs_ok gl ht hp) (partsOf_ok gl ht hq)
    · cases e

theorem places_ok {fs : Array Field} {ps : List (Nat × PV)} {vs : List (Nat × Value)} (hps : PsRep M μ ps vs) : ∀ {pl : List (Nat × Nat × List PV)}, placesOf P fs ps = some pl →
    PartsAt M μ (fun i => (fs.map fun f => (f.offset, fsize P f))[i]?) vs pl := by
  induction hps with
  | nil => intro pl e; cases e; exact .nil
  | cons i p v ps vs hr _ ih =>
    intro pl e
    unfold placesOf at e
    split at e
    · rename_i f r hf hr'
      split at e
      · rename_i n hn
        obtain ⟨hn0, e⟩ := bifT e
        cases e
        refine .cons _ _ _ _ _ _ _ ?_ hr (by simpa using hn0) (ih hr')
        simp [hf, fsize, hn]
      · cases e
    · cases e
theorem placesArr_ok {n : Nat} (hn : 0 < n) {ps : List (Nat × PV)} {vs : List (Nat × Value)} (hps : PsRep M μ ps vs) : PartsAt M μ (fun i => some (i * n, n)) vs (placesArr n ps) := by
  induction hps with
  | nil => exact .nil
  | cons i p v ps vs hr _ ih => exact .cons _ _ _ _ _ _ _ rfl hr hn ih
theorem oneAll {vs : Array Value} (h : ∀ v ∈ vs.toList, v.oneCell' = true) : ∀ (i : Nat) (v : Value), vs[i]? = some v → v.oneCell' = true :=
  fun _ v hv => h v (Array.mem_toList_iff.2 (Array.mem_of_getElem? hv))

theorem build_ok (s : Sim M μ h w) {ty : TypeId} {ps : List (Nat × PV)} {parts : Array (Nat × Value)} (hps : PsRep M μ ps parts.toList) {r : R} (e : evBuild P h ty ps = some r) :
    Says P M μ w ((do pure (.value (← Instr.build ty parts)) : Sem Next).run P w) r := by
  unfold evBuild at e
  split at e
  · rename_i z fs hz hu
    obtain ⟨hall, e⟩ := bifT e
    split at e
    · rename_i pl hpl
      obtain ⟨cs, hcs, rfl⟩ := mapOpt e
      obtain ⟨zv, i, hi, hiz, hrun, hr, h1⟩ := zeroCells_ok hz M μ w
      obtain ⟨cells', hf, hr', h1'⟩ := fill_ok (places_ok hps hpl) hr (oneAll h1) hcs
      refine says_val s (x := .agg cells') ?_ (.agg _ _ _ (by simpa using hr'.1) h1' fun i c v hc hv => hr'.2 i c v hc (by simpa using hv))
      simp only [Instr.build, Sem.run_bind, hrun, Result.andThen, und_ok hu, Sem.run_pure, sizes_ok hall, hf]
    · cases e
  · rename_i z n el hz hu
    split at e
    · rename_i n hn
      obtain ⟨hn0, e⟩ := bifT e
      obtain ⟨cs, hcs, rfl⟩ := mapOpt e
      obtain ⟨zv, i, hi, hiz, hrun, hr, h1⟩ := zeroCells_ok hz M μ w
      obtain ⟨cells', hf, hr', h1'⟩ := fill_ok (placesArr_ok (by simpa using hn0) hps) hr (oneAll h1) hcs
      refine says_val s (x := .agg cells') ?_ (.agg _ _ _ (by simpa using hr'.1) h1' fun i c v hc hv => hr'.2 i c v hc (by simpa using hv))
      simp only [Instr.build, Sem.run_bind, hrun, Result.andThen, und_ok hu, Sem.run_pure, tsize_ok hn, hf]
    · cases e
  · cases e

/-- elements against the cells of a row -/
def FlatRep (M : Mem) (μ : Mu) (n : Nat) (es : List PV) (arr : Array Value) : Prop :=
  arr.size = es.length * n ∧ (∀ (i : Nat) (e : PV), es[i]? = some e → e.cells.length = n) ∧
    ∀ (i : Nat) (e : PV) (j : Nat) (c : PV), es[i]? = some e → e.cells[j]? = some c → ∃ v, arr[i * n + j]? = some v ∧ v.oneCell' = true ∧ Rep M μ c v
theorem rep_one_cells {c : PV} {v : Value} (hr : Rep M μ c v) (h1 : v.oneCell' = true) : c.cells = [c] := by
  cases hr <;> first | rfl | (simp [Value.oneCell'] at h1)
theorem mkEl_cells {ag : Bool} {z : List PV} {z1 : PV} (e : mkEl ag z = some z1) {vs : List Value} (hr : RepL M μ z vs) (h1 : ∀ v ∈ vs, v.oneCell' = true) : z1.cells = z := by
  unfold mkEl at e
  cases ag with
  | true => simp at e; subst e; rfl
  | false =>
    simp at e
    split at e
    · rename_i c
      cases e
      obtain ⟨v, hv, hrv⟩ := hr.get (i := 0) rfl
      exact rep_one_cells hrv (h1 v (List.mem_of_getElem? hv))
    · cases e
theorem zeroArr (z : Array Value) (n k : Nat) (hk : k < n) : ((Array.range n).map (z[· % z.size]!))[k]? = some (z[k % z.size]!) := by
  simp [hk]
theorem flat_zero {z : List PV} {zv : Array Value} {n len : Nat} {ag : Bool} {z1 : PV} (hr : RepL M μ z zv.toList) (h1 : ∀ v ∈ zv.toList, v.oneCell' = true) (hn : z.length = n) (_hn0 : 0 < n) (e : mkEl ag z = some z1) :
    FlatRep M μ n (List.replicate len z1) ((Array.range (len * n)).map (zv[· % zv.size]!)) := by
  have hc := mkEl_cells e hr h1
  have hs : zv.size = n := by rw [← hn]; simpa using hr.1.symm
  refine ⟨by simp, fun i el hel => ?_, fun i el j c hel hcj => ?_⟩
  · obtain ⟨_, rfl⟩ := List.getElem?_eq_some_iff.1 hel
    simp [hc, hn]
  · obtain ⟨hi, rfl⟩ := List.getElem?_eq_some_iff.1 hel
    simp only [List.getElem_replicate, List.length_replicate] at hcj hi
    rw [hc] at hcj
    have hj : j < n := by rw [← hn]; exact (List.getElem?_eq_some_iff.1 hcj).1
    have hlt : i * n + j < len * n := by
      have : (i + 1) * n ≤ len * n := Nat.mul_le_mul_right _ (by omega)
      rw [Nat.add_mul] at this; omega
    have hmod : (i * n + j) % n = j := by rw [Nat.mul_comm, Nat.mul_add_mod]; exact Nat.mod_eq_of_lt hj
    refine ⟨_, zeroArr zv _ _ hlt, ?_⟩
    rw [hs, hmod]
    have hz : zv[j]? = some zv[j]! := by rw [Array.getElem?_eq_getElem (by omega)]; simp [hs, hj]
    exact ⟨oneAll h1 j _ hz, hr.2 j c _ hcj (by simpa using hz)⟩
theorem flat_set {n : Nat} {es : List PV} {arr : Array Value} {i : Nat} {p : PV} {v : Value} (hf : FlatRep M μ n es arr) (hn0 : 0 < n) (hr : Rep M μ p v) (hp : p.cells.length = n) (hi : i < es.length) :
    v.cells.size = n ∧ i * n + n ≤ arr.size ∧ FlatRep M μ n (lset es i p) (v.cells.zipIdx.foldl (fun cs (p : Value × Nat) => cs.setIfInBounds (i * n + p.2) p.1) arr) := by
  obtain ⟨hc, hone⟩ := hr.cells (notTup_of_len hp hn0)
  have hs : v.cells.size = n := by rw [← hp]; simpa using hc.1.symm
  have hle : i * n + n ≤ arr.size := by
    rw [hf.1]
    have : (i + 1) * n ≤ es.length * n := Nat.mul_le_mul_right _ (by omega)
    rw [Nat.add_mul] at this; omega
  refine ⟨hs, hle, ?_, ?_, ?_⟩
  · rw [zipIdx_fold_size, hf.1]; simp [lset_eq]
  · intro k e hk
    rw [lset_eq, List.getElem?_set] at hk
    by_cases hik : i = k
    · rw [if_pos hik, if_pos hi] at hk; cases hk; exact hp
    · rw [if_neg hik] at hk; exact hf.2.1 k e hk
  · intro k e j c hk hcj
    have hj : j < n := by
      have := (List.getElem?_eq_some_iff.1 hcj).1
      rw [lset_eq, List.getElem?_set] at hk
      by_cases hik : i = k
      · rw [if_pos hik, if_pos hi] at hk; cases hk; omega
      · rw [if_neg hik] at hk; have := hf.2.1 k e hk; omega
    rw [zipIdx_fold _ _ _ (by omega), hs]
    rw [lset_eq, List.getElem?_set] at hk
    by_cases hik : i = k
    · rw [if_pos hik, if_pos hi] at hk; cases hk; subst hik
      rw [if_pos (by omega), show i * n + j - i * n = j by omega]
      obtain ⟨y, hy, hry⟩ := hc.get hcj
      exact ⟨y, by simpa using hy, hone j y (by simpa using hy), hry⟩
    · rw [if_neg hik] at hk
      rw [if_neg ?_]
      · exact hf.2.2 k e j c hk hcj
      · intro hcon
        exact hik (mul_lt_row (i := k) (k := i) (j' := k * n + j - i * n) hj (by omega) (by omega)).1.symm
theorem fillE_ok {n : Nat} (hn0 : 0 < n) {ps : List (Nat × PV)} {vs : List (Nat × Value)} (hps : PsRep M μ ps vs) : ∀ {es es' : List PV} {arr : Array Value}, FlatRep M μ n es arr → fillE n es ps = some es' →
    ∃ arr', Instr.fill (fun i => some (i * n, n)) arr vs = some arr' ∧ FlatRep M μ n es' arr' ∧ es'.length = es.length := by
  induction hps with
  | nil => intro es es' arr hf e; simp [fillE] at e; subst e; exact ⟨arr, by simp [Instr.fill], hf, rfl⟩
  | cons i p v ps vs hr _ ih =>
    intro es es' arr hf e
    unfold fillE at e
    obtain ⟨hc, e⟩ := bifT e
    simp at hc
    obtain ⟨a, b, c⟩ := flat_set hf hn0 hr hc.1 hc.2
    obtain ⟨arr', h1, h2, h3⟩ := ih c e
    refine ⟨arr', ?_, h2, h3.trans (by simp [lset_eq])⟩
    unfold Instr.fill
    simp only [a]
    rw [if_neg (by simp; omega)]
    exact h1
theorem purl_get : ∀ {ps qs : List PV} {l : List Nat}, purl h ps = some (qs, l) → qs.length = ps.length ∧ ∀ (i : Nat) (p : PV), ps[i]? = some p → ∃ q l', pur h purDepth p = some (q, l') ∧ qs[i]? = some q ∧ ∀ x ∈ l', x ∈ l
  | [], qs, l, e => by simp [purl] at e; obtain ⟨rfl, rfl⟩ := e; exact ⟨rfl, fun i p hp => by simp at hp⟩
  | p :: ps, qs, l, e => by
    unfold purl at e
    split at e
    · rename_i q a qs' b h1 h2
      cases e
      obtain ⟨k1, k2⟩ := purl_get h2
      refine ⟨by simp [k1], fun i x hx => ?_⟩
      cases i with
      | zero => simp at hx; subst hx; exact ⟨q, a, h1, rfl, fun y hy => List.mem_append_left _ hy⟩
      | succ i =>
        obtain ⟨q', l', h3, h4, h5⟩ := k2 i x (by simpa using hx)
        exact ⟨q', l', h3, by simpa using h4, fun y hy => List.mem_append_right _ (h5 y hy)⟩
    · cases e
/-- frozen elements over the same cells -/
theorem purl_flat (s : Sim M μ h w) {n : Nat} {es qs : List PV} {ids : List Nat} {arr : Array Value} (hf : FlatRep M μ n es arr) (e : purl h es = some (qs, ids)) (L : List Nat) (hL : ∀ x ∈ ids, x ∈ L) : FlatRep (frz M h μ w L) mu0 n qs arr := by
  obtain ⟨k1, k2⟩ := purl_get e
  have get : ∀ (i : Nat) (q : PV), qs[i]? = some q → ∃ el l', es[i]? = some el ∧ pur h purDepth el = some (q, l') ∧ ∀ x ∈ l', x ∈ ids := by
    intro i q hq
    have hi : i < es.length := by rw [← k1]; exact (List.getElem?_eq_some_iff.1 hq).1
    obtain ⟨q', l', a1, a2, a3⟩ := k2 i _ (List.getElem?_eq_getElem hi)
    rw [hq] at a2; cases a2
    exact ⟨_, l', List.getElem?_eq_getElem hi, a1, a3⟩
  refine ⟨by rw [hf.1, k1], fun i q hq => ?_, fun i q j c hq hcj => ?_⟩
  · obtain ⟨el, l', a1, a2, _⟩ := get i q hq
    rw [(pur_cells a2).1]; exact hf.2.1 i el a1
  · obtain ⟨el, l', a1, a2, a3⟩ := get i q hq
    have hcl := pur_cells a2
    have hj : j < el.cells.length := by rw [← hcl.1]; exact (List.getElem?_eq_some_iff.1 hcj).1
    obtain ⟨n', c', l'', b1, b2, b3, b4⟩ := hcl.2 j _ (List.getElem?_eq_getElem hj)
    rw [hcj] at b3; cases b3
    obtain ⟨v, c1, c2, c3⟩ := hf.2.2 i el j _ a1 (List.getElem?_eq_getElem hj)
    exact ⟨v, c1, c2, pur_ok s L n' _ _ l'' v b2 c3 fun x hx => hL x (a3 x (b4 x hx))⟩
theorem FlatRep.mono {M' : Mem} {μ' : Mu} {n : Nat} {es : List PV} {arr : Array Value} (hf : FlatRep M μ n es arr) (hM : MLe M M') (hμ : MuLe μ μ') : FlatRep M' μ' n es arr :=
  ⟨hf.1, hf.2.1, fun i e j c a b => let ⟨v, h1, h2, h3⟩ := hf.2.2 i e j c a b; ⟨v, h1, h2, h3.mono hM hμ⟩⟩
/-- a list over a row of data -/
theorem lst_of_flat {M' : Mem} {n : Nat} {es : List PV} {arr : Array Value} {b off : Nat} (hf : FlatRep M' mu0 n es arr) (hM : ∀ (k : Nat) (v : Value), arr[k]? = some v → M' ⟨b, off + k, none⟩ = some v) (μ : Mu) (full : Bool) (cap : Nat) (hc : es.length ≤ cap) (hfull : full = true → cap = es.length) :
    Rep M' μ (.lst full es) (.slice (some ⟨b, off, none⟩) es.length cap) := by
  refine .lst _ _ _ _ _ n _ (fun i j => (arr[i * n + j]?).getD undef) hfull hc hf.2.1 ?_ ?_ ?_
  all_goals
    intro i e j c hi hj
    obtain ⟨v, h1, h2, h3⟩ := hf.2.2 i e j c hi hj
    simp only [h1, Option.getD_some]
  · rw [Nat.add_assoc]; exact hM _ _ h1
  · exact h2
  · exact h3

theorem buildSlice_ok (s : Sim M μ h w) {ty : TypeId} {len : Nat} {ps : List (Nat × PV)} {parts : Array (Nat × Value)} (hps : PsRep M μ ps parts.toList) {r : R} (e : evBuildSlice P h ty len ps = some r) :
    Says P M μ w ((do pure (.value (← Instr.buildSlice ty len parts)) : Sem Next).run P w) r := by
  unfold evBuildSlice at e
  split at e
  · rename_i el hu
    split at e
    · rename_i n ag z hn hag hz
      split at e
      · rename_i z1 hz1
        obtain ⟨hc, e⟩ := bifF e
        simp at hc
        obtain ⟨⟨hn0, hle⟩, hzl⟩ := hc
        split at e
        · rename_i es hes
          split at e
          · rename_i qs ids hpur
            obtain ⟨h', hfr, rfl⟩ := mapOpt e
            obtain ⟨zv, i, hi, hiz, hrun, hr, h1⟩ := zeroCells_ok hz M μ w
            obtain ⟨arr', hf, hflat, hlen⟩ := fillE_ok hn0 hps (flat_zero (len := len) hr h1 hzl hn0 hz1) hes
            obtain ⟨M', m1, m2, m3, _⟩ := freeze_ok ids s hfr
            have hq := (purl_flat s hflat hpur ids (fun _ h => h)).mono m1 (.refl _)
            have hd := m2.data (w' := w.alloc (.cells arr' el)) (arr := arr') (ty := el) rfl
            have hql : qs.length = len := by rw [(purl_get hpur).1, hlen]; simp
            refine ⟨_, μ, w.alloc (.cells arr' el), .slice (some ⟨w.heap.size, 0, none⟩) len len, ?_, hd.1, (freeze_grow m1 m3).trans (Grow.data hd.2 rfl rfl rfl rfl (fun _ _ _ h => by cases h; rfl)), ?_⟩
            · have hsmall : ¬ (2 ^ 24 < len * n) := by simpa using hle
              by_cases h0 : len * n = 0
              · have hl0 : len = 0 := by rcases Nat.mul_eq_zero.1 h0 with h | h <;> omega
                have hzero : (Array.range (len * n)).map (zv.cells[· % zv.cells.size]!) = (Array.range (len * n)).map ((#[] : Array Value)[· % (#[] : Array Value).size]!) := by simp [h0]
                rw [hzero] at hf
                simp [h0] at hf
                simp [Instr.buildSlice, und_ok hu, tsize_ok hn, h0, hf, newRow]
              · simp [Instr.buildSlice, und_ok hu, tsize_ok hn, h0, hrun, hsmall, hf, newRow]
            · rw [← hql]
              refine lst_of_flat (arr := arr') (hq.mono hd.2 (.refl _)) (fun k v hk => ?_) μ true _ (Nat.le_refl _) (fun _ => rfl)
              simp [memAdd, hk]
          · cases e
        · cases e
      · cases e
    · cases e
  · cases e

theorem asNat_ok {p : PV} {n : Nat} {v : Value} (e : asNat p = some n) (hr : Rep M μ p v) : ∃ k i, p = .int k i ∧ v = .int k i ∧ 0 ≤ i ∧ i.toNat = n := by
  unfold asNat at e
  split at e
  · rename_i k i
    obtain ⟨h0, e⟩ := bifT e
    cases e
    cases hr
    exact ⟨k, i, rfl, rfl, by simpa using h0, rfl⟩
  · cases e
theorem asInt64_ok {p : PV} {n : Nat} {v : Value} (e : asInt64 p = some n) (hr : Rep M μ p v) : ∃ i, v = .int .i64 i ∧ 0 ≤ i ∧ i.toNat = n := by
  unfold asInt64 at e
  split at e
  · rename_i i
    obtain ⟨h0, e⟩ := bifT e
    cases e
    cases hr
    exact ⟨i, rfl, by simpa using h0, rfl⟩
  · cases e
theorem wrap_small (i : Int) (h0 : 0 ≤ i) (h1 : i < 9223372036854775808) : IntKind.i64.wrap i = i := by
  unfold IntKind.wrap
  have e : i % (2 ^ IntKind.i64.bits : Int) = i := by
    have : (2 ^ IntKind.i64.bits : Int) = 18446744073709551616 := by decide
    rw [this]; omega
  simp only [e]
  have e2 : ¬ (i ≥ (2 ^ (IntKind.i64.bits - 1) : Int)) := by
    have : (2 ^ (IntKind.i64.bits - 1) : Int) = 9223372036854775808 := by decide
    rw [this]; omega
  simp [e2]
theorem make_ok (s : Sim M μ h w) {id : Nat} {ty : TypeId} {l c : PV} {x y : Value} (hx : Rep M μ l x) (hy : Rep M μ c y) {r : R} (e : evMake P h id ty l c = some r) :
    Says P M μ w ((do pure (.value (← Instr.makeSlice ty x y)) : Sem Next).run P w) r := by
  unfold evMake at e
  split at e
  · rename_i el ln cn hu hl hc
    split at e
    · rename_i n ag z ti hn hag hz hti
      split at e
      · rename_i z1 hz1
        obtain ⟨hcond, e⟩ := bifT e
        simp [smallN] at hcond
        obtain ⟨⟨⟨⟨hlc, hcs⟩, hb⟩, hn0⟩, hzl⟩ := hcond
        obtain ⟨h', hnew, rfl⟩ := mapOpt e
        obtain ⟨li, rfl, hl0, rfl⟩ := asInt64_ok hl hx
        obtain ⟨ci, rfl, hc0, rfl⟩ := asInt64_ok hc hy
        obtain ⟨zv, i, hi, hiz, hrun, hr, h1⟩ := zeroCells_ok hz M μ w
        obtain ⟨hget, hset, _⟩ := Hp.get_new hnew
        have hflat := flat_zero (len := ci.toNat) hr h1 hzl hn0 hz1
        have hμ : μ id = none := by
          cases hm : μ id with
          | none => rfl
          | some x => exact absurd hget (s.use id x hm).1
        have hS := s.fresh (w' := w.alloc (.cells ((Array.range (ci.toNat * n)).map (zv.cells[· % zv.cells.size]!)) el)) (r := ⟨w.heap.size, 0, n, ci.toNat⟩) (o := .cells _ el (0, 0)) hget hset rfl rfl
          ⟨_, el, rfl, by simp, by simp, by simp, hn0, fun i e he => hflat.2.1 i e he, fun i e j c v a b hv => by
            obtain ⟨v', c1, c2, c3⟩ := hflat.2.2 i e j c a b
            simp only [Nat.zero_add] at hv
            rw [hv] at c1; cases c1
            exact ⟨c2, c3.mono (.refl _) (upd_le hμ)⟩⟩
        refine ⟨M, _, _, .slice (some ⟨w.heap.size, 0, none⟩) li.toNat ci.toNat, ?_, hS.1, Grow.newBlk hμ rfl rfl rfl rfl rfl (fun _ _ _ h => by cases h; rfl), ?_⟩
        · have w1 := wrap_small li hl0 (by omega)
          have w2 := wrap_small ci hc0 (by omega)
          have hbytes : ¬ ((281474976710656 : Int) < ti.bytes * ci) := by
            have : (ti.bytes : Int) * ci ≤ 1048576 * 1048576 := Int.mul_le_mul (by omega) (by omega) hc0 (by omega)
            omega
          have hneg : ¬ (ci < 0) := by omega
          have hneg2 : ¬ (li < 0) := by omega
          have hgt : ¬ (ci < li) := by omega
          have hti' : i = ti := by rw [hti] at hi; exact (Option.some.inj hi).symm
          by_cases h0 : ci.toNat * n = 0
          · have hz0 : (Array.range (ci.toNat * n)).map (zv.cells[· % zv.cells.size]!) = (Array.range (ci.toNat * n)).map ((#[] : Array Value)[· % (#[] : Array Value).size]!) := by simp [h0]
            rw [hz0]
            simp [Instr.makeSlice, und_ok hu, asInt, asIntOf, info_ok hti, w1, w2, hbytes, hneg, hneg2, hgt, tsize_ok hn, h0, newRow]
          · simp [Instr.makeSlice, und_ok hu, asInt, asIntOf, info_ok hti, w1, w2, hbytes, hneg, hneg2, hgt, tsize_ok hn, h0, hrun, newRow]
        · have := Rep.own (M := M) (upd μ id ⟨w.heap.size, 0, n, ci.toNat⟩) id 0 li.toNat ⟨w.heap.size, 0, n, ci.toNat⟩ (by simp [upd]) (by simp; omega)
          simpa using this
      · cases e
    · cases e
  · cases e
end
end Go.Proofs.YtfecnejgdafbcaaGreatDoor.Pi
