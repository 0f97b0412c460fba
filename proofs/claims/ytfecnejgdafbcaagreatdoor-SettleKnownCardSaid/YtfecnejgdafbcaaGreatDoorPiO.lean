/- A part of the evaluator of the model's code and of its soundness, for any program. No condition. -/
import Derived.Test.YtfecnejgdafbcaaGreatDoorPiN
import Derived.Laws.Append
namespace Go.Proofs.YtfecnejgdafbcaaGreatDoor.Pi
set_option linter.all false
variable [Gl]
section
variable {P : Program} {M : Mem} {μ : Mu} {h : Hp} {w : World}

theorem int_und (d : TypeDesc) (hs : ∃ e, d = .slice e) : (d matches .int _) = false := by obtain ⟨e, rfl⟩ := hs; rfl
/-- append into what is there -/
theorem run_append_fit {t ty e : TypeId} {n : Nat} (ht : P.underlying t = some (.slice e)) (hsz : tsize P e = some n) (b : Addr) (a : Option Addr) (sLen sCap k c : Nat) (news : List Value) (hfit : sLen + k ≤ sCap)
    (hn : k ≠ 0 → ∃ x, a = some x ∧ news.length = k * n ∧ ∀ j v, news[j]? = some v → w.cell? (x.add j) = some v) (h0 : k = 0 → news = []) :
    (Builtin.append_ #[t, t] ty #[.slice (some b) sLen sCap, .slice a k c]).run P w = match (storeCells (b.add (sLen * n)) news 0).run P w with
      | .ok _ w' => .ok (.slice (some b) (sLen + k) sCap) w'
      | .halt o w' => .halt o w' := by
  have hf : (Builtin.firstCells n k (.slice a k c)).run P w = .ok news.toArray w := by
    by_cases hk : k = 0
    · rw [h0 hk]
      cases a with
      | none => exact run_firstCells_none w n k k c
      | some x => exact run_firstCells_some w n k x k c [] (by simp [hk]) (by intro j v h; simp at h)
    · obtain ⟨x, rfl, h1, h2⟩ := hn hk
      exact run_firstCells_some w n k x k c news h1 h2
  simp only [Builtin.append_]
  simp only [Sem.run_bind, und_ok ht, Result.andThen, tsize_ok hsz, Sem.run_pure, List.getElem?_toArray, List.getElem?_cons_zero, List.getElem?_cons_succ]
  simp [Builtin.lenOf, hfit, hf]
  cases (storeCells (b.add (sLen * n)) news 0).run P w <;> rfl
theorem run_append_none {t ty e : TypeId} {n : Nat} (ht : P.underlying t = some (.slice e)) (hsz : tsize P e = some n) (a : Option Addr) (c : Nat) :
    (Builtin.append_ #[t, t] ty #[.slice none 0 0, .slice a 0 c]).run P w = .ok (.slice none 0 0) w := by
  have hf : (Builtin.firstCells n 0 (.slice a 0 c)).run P w = .ok #[] w := by
    cases a with
    | none => exact run_firstCells_none w n 0 0 c
    | some x => exact run_firstCells_some w n 0 x 0 c [] (by simp) (by intro j v h; simp at h)
  simp only [Builtin.append_]
  simp only [Sem.run_bind, und_ok ht, Result.andThen, tsize_ok hsz, Sem.run_pure, List.getElem?_toArray, List.getElem?_cons_zero, List.getElem?_cons_succ]
  simp [Builtin.lenOf, hf]

theorem FlatRep.append {n : Nat} {es es' : List PV} {arr arr' : Array Value} (hf : FlatRep M μ n es arr) (hg : FlatRep M μ n es' arr') : FlatRep M μ n (es ++ es') (arr ++ arr') := by
  refine ⟨by simp [hf.1, hg.1, Nat.add_mul], fun i e he => ?_, fun i e j c he hj => ?_⟩
  · rw [List.getElem?_append] at he
    split at he
    · exact hf.2.1 i e he
    · exact hg.2.1 _ e he
  · rw [List.getElem?_append] at he
    split at he
    · obtain ⟨v, h1, h2⟩ := hf.2.2 i e j c he hj
      exact ⟨v, by rw [Array.getElem?_append_left (Array.getElem?_eq_some_iff.1 h1).1]; exact h1, h2⟩
    · rename_i hi
      obtain ⟨v, h1, h2⟩ := hg.2.2 _ e j c he hj
      refine ⟨v, ?_, h2⟩
      have : i * n + j = arr.size + ((i - es.length) * n + j) := by
        rw [hf.1, ← Nat.add_assoc, ← Nat.add_mul]; congr 2; omega
      rw [this, Array.getElem?_append_right (by omega)]
      rw [show arr.size + ((i - es.length) * n + j) - arr.size = (i - es.length) * n + j by omega]; exact h1
theorem FlatRep.nil {n : Nat} : FlatRep M μ n [] #[] := ⟨by simp, fun i e he => by simp at he, fun i e j c he => by simp at he⟩
/-- the elements behind a slice -/
def ElemsAt (M : Mem) (μ : Mu) (w : World) (n : Nat) (es : List PV) (a : Option Addr) : Prop :=
  es ≠ [] → ∃ (b : Addr) (news : List Value), a = some b ∧ news.length = es.length * n ∧ (∀ j v, news[j]? = some v → w.cell? (b.add j) = some v) ∧ FlatRep M μ n es news.toArray
theorem grow_ok {t ty e n : Nat} {ti : TypeInfo} {z : Value} {olds new : List PV} {a0 a : Option Addr} {sCap c : Nat} (ht : P.underlying t = some (.slice e)) (hi : P.info? e = some ti) (hz : ti.zero = some z) (hsn : ti.size = n) (hzn : z.cells.size = n) (_hn0 : 0 < n)
    (ho : ElemsAt M μ w n olds a0) (hw : ElemsAt M μ w n new a) (ha0 : a0 = none → sCap = 0 ∧ olds = []) (hg : sCap < olds.length + new.length) (hne : new ≠ []) (hs1 : olds.length + new.length ≤ smallN) (hs2 : ti.bytes ≤ smallN) :
    ∃ w' arr rest cap, (Builtin.append_ #[t, t] ty #[.slice a0 olds.length sCap, .slice a new.length c]).run P w = .ok (.slice (some ⟨w.heap.size, 0, none⟩) (olds.length + new.length) cap) w' ∧
      FlatRep M μ n (olds ++ new) arr ∧ olds.length + new.length ≤ cap ∧ rest.size = (cap - (olds.length + new.length)) * n ∧ w'.heap = w.heap.push (.cells (arr ++ rest) e (0, 0)) ∧ w'.os = w.os ∧ w'.output = w.output ∧ w'.tape = w.tape := by
  obtain ⟨b, news, rfl, n1, n2, n3⟩ := hw hne
  have hpos : 0 < new.length := List.length_pos_iff.2 hne
  have hfit : (olds.length + new.length) * ti.bytes ≤ 140737488355328 := by
    have : (olds.length + new.length) * ti.bytes ≤ 1048576 * 1048576 := Nat.mul_le_mul hs1 hs2
    omega
  simp only [smallN] at hs1 hs2
  cases a0 with
  | none =>
    obtain ⟨rfl, rfl⟩ := ha0 rfl
    simp only [List.length_nil, Nat.zero_add, List.nil_append] at *
    have := run_append_nil (P := P) w t ty e ti z ht hi hz b new.length c news (by rw [n1, hsn]) n2 hpos (by omega) (by omega)
    exact ⟨_, news.toArray, _, _, this, n3, grownCap_ge _ _ _ _, by simp [Builtin.zeroCells, hzn], rfl, rfl, rfl, rfl⟩
  | some b0 =>
    have hol : ∃ ol : List Value, ol.length = olds.length * n ∧ (∀ j v, ol[j]? = some v → w.cell? (b0.add j) = some v) ∧ FlatRep M μ n olds ol.toArray := by
      by_cases h0 : olds = []
      · subst h0; exact ⟨[], by simp, by intro j v h; simp at h, FlatRep.nil⟩
      · obtain ⟨b', ol, he, x1, x2, x3⟩ := ho h0
        cases he; exact ⟨ol, x1, x2, x3⟩
    obtain ⟨ol, o1, o2, o3⟩ := hol
    have := run_append_grow (P := P) w t ty e ti z ht hi hz b0 olds.length sCap ol (by rw [o1, hsn]) o2 b new.length c news (by rw [n1, hsn]) n2 hg (by omega) (growslice_fits hg hfit)
    exact ⟨_, ol.toArray ++ news.toArray, _, _, this, o3.append n3, grownCap_ge _ _ _ _, by simp [Builtin.zeroCells, hzn], rfl, rfl, rfl, rfl⟩
theorem lst_all {full : Bool} {es : List PV} {x : Value} {n : Nat} (hx : Rep M μ (.lst full es) x) (he : elOk n es = true) : ∀ v ∈ es, v.cells.length = n := by
  intro v hv
  obtain ⟨i, hi⟩ := List.mem_iff_getElem?.1 hv
  cases hx with
  | lst0 => simp at hv
  | lst _ _ _ b off esz _ x hf hc hs hm h1 hr =>
    cases es with
    | nil => simp at hv
    | cons e0 es => rw [hs i v hi, ← hs 0 e0 rfl]; simpa [elOk] using he

theorem app_ok (s : Sim M μ h w) {id t ty : Nat} {p q : PV} {x y : Value} (hx : Rep M μ p x) (hy : Rep M μ q y) {r : R} (e : papp P h id t p q = some r) :
    Says P M μ w ((do pure (.value (← Builtin.append_ #[t, t] ty #[x, y])) : Sem Next).run P w) r := by
  unfold papp at e
  split at e
  · rename_i el hu
    split at e
    · rename_i sz ti new zc hsz hti hnew hzc
      replace e := bifF e; obtain ⟨hc, e⟩ := e
      simp only [Bool.or_eq_false_iff, Bool.not_eq_false', List.all_eq_true, Nat.beq_eq, Nat.ble_eq, Nat.blt_eq] at hc
      obtain ⟨⟨⟨hnl, hby⟩, hzl⟩, hn0⟩ := hc
      obtain ⟨zv, i, hi, hiz, hrun, hrz, h1z⟩ := zeroCells_ok hzc M μ w
      rw [hti] at hi; cases hi
      have hsn : ti.size = sz := by simp [tsize, hti] at hsz; exact hsz
      have hzn : zv.cells.size = sz := by rw [← hzl]; simpa using hrz.1.symm
      obtain ⟨a, c, rfl, hE⟩ := elems_ok s hy hnew hnl hn0
      have hE' : ElemsAt M μ w sz new a := hE
      split at e
      · cases hx
        cases new with
        | nil =>
          simp at e; subst e
          exact says_val s (run_append_none hu hsz a c) (.nils _)
        | cons e0 es0 =>
          have e : (bif Nat.ble (e0 :: es0).length smallN then (h.new id (.row (e0 :: es0) false false)).map (fun h => R.val (.own id 0 (e0 :: es0).length) h) else none) = some r := e
          replace e := bifT e; obtain ⟨hsm, e⟩ := e
          obtain ⟨h', hnw, rfl⟩ := mapOpt e
          obtain ⟨w', arr, rest, cap, g1, g2, g3, g4, g5, g6, g7, g8⟩ := grow_ok (ty := ty) (olds := []) (a0 := none) (sCap := 0) (c := c) hu hti hiz hsn hzn hn0 (fun h => absurd rfl h) hE' (fun _ => ⟨rfl, rfl⟩) (by simp) (by simp) (by simpa using hsm) hby
          simp only [List.length_nil, Nat.zero_add, List.nil_append] at g1 g2 g3 g4
          obtain ⟨μ', k1, k2, k3⟩ := row_new s hn0 g2 g3 g4 hnw g5 g6 g7 g8
          exact ⟨M, μ', w', _, by simp only [Sem.run_bind, g1, Result.andThen, Sem.run_pure], k1, k2, k3 _ (Nat.le_refl _)⟩
      · rename_i es
        have hlst : ∃ a0, x = .slice a0 es.length es.length ∧ (a0 = none → es = []) := by
          cases hx with
          | lst0 _ _ a cap hf => have := hf rfl; subst this; exact ⟨some a, rfl, fun _ => rfl⟩
          | lst _ _ _ b off esz cap x hf hc hs hm h1 hr => have := hf rfl; subst this; exact ⟨_, rfl, by intro h; cases h⟩
        obtain ⟨a0, rfl, ha0⟩ := hlst
        cases new with
        | nil =>
          simp at e; subst e
          cases a0 with
          | none =>
            have := ha0 rfl; subst this
            exact says_val s (run_append_none hu hsz a c) hx
          | some b0 =>
            refine says_val s (x := .slice (some b0) es.length es.length) ?_ hx
            have := run_append_fit (P := P) (w := w) (ty := ty) hu hsz b0 a es.length es.length 0 c [] (by omega) (fun h => absurd rfl h) (fun _ => rfl)
            simpa [storeCells] using this
        | cons e0 es0 =>
          have e : (bif Nat.ble (es.length + (e0 :: es0).length) smallN && elOk sz es then (h.new id (.row (es ++ (e0 :: es0)) false false)).map (fun h => R.val (.own id 0 (es.length + (e0 :: es0).length)) h) else none) = some r := e
          replace e := bifT e; obtain ⟨hsm, e⟩ := e
          obtain ⟨h', hnw, rfl⟩ := mapOpt e
          simp only [Bool.and_eq_true, Nat.ble_eq] at hsm
          have hO : ElemsAt M μ w sz es a0 := by
            obtain ⟨a', c', he', hE2⟩ := elems_ok s hx (es := es) rfl (lst_all hx hsm.2) hn0
            cases he'; exact hE2
          obtain ⟨w', arr, rest, cap, g1, g2, g3, g4, g5, g6, g7, g8⟩ := grow_ok (ty := ty) (c := c) (sCap := es.length) hu hti hiz hsn hzn hn0 hO hE' (fun h => by have := ha0 h; subst this; exact ⟨rfl, rfl⟩) (by simp) (by simp) hsm.1 hby
          obtain ⟨μ', k1, k2, k3⟩ := row_new s hn0 g2 (by simpa using g3) (by simpa using g4) hnw g5 g6 g7 g8
          exact ⟨M, μ', w', _, by simp only [Sem.run_bind, g1, Result.andThen, Sem.run_pure], k1, k2, k3 _ (by simp)⟩
      · rename_i j off len
        split at e
        · rename_i es ex fz hb
          replace e := bifF e; obtain ⟨hc, e⟩ := e
          simp only [Bool.or_eq_false_iff, Bool.not_eq_false', Nat.ble_eq] at hc
          obtain ⟨⟨hsm, hol⟩, hel⟩ := hc
          cases hx with
          | own _ _ _ _ rb hr hcap =>
          obtain ⟨r', hr', arr0, ety, h1, h2, h3, h4, h5, h6, h7⟩ := s.blk j _ hb
          rw [hr] at hr'; cases hr'
          have hesz : es ≠ [] → rb.esz = sz := by
            intro hne
            cases es with
            | nil => exact absurd rfl hne
            | cons e1 es1 => rw [← h6 0 e1 rfl]; simpa [elOk] using hel
          have hall : ∀ v ∈ (es.drop off).take len, v.cells.length = sz := by
            intro v hv
            have hv := List.mem_of_mem_drop (List.mem_of_mem_take hv)
            obtain ⟨i, hi⟩ := List.mem_iff_getElem?.1 hv
            rw [h6 i v hi, hesz (by intro h; subst h; simp at hv)]
          have hol2 : ((es.drop off).take len).length = len := by simp; omega
          have hO : ElemsAt M μ w sz ((es.drop off).take len) (some ⟨rb.b, rb.base + off * rb.esz, none⟩) := by
            obtain ⟨a', c', he', hE2⟩ := elems_ok s (.own (M := M) μ j off len rb hr hcap) (es := (es.drop off).take len) (by simp only [elemsOf, hb, Nat.ble_eq_true_of_le hol, cond_true]) hall hn0
            simp only [Value.slice.injEq] at he'
            obtain ⟨rfl, _, _⟩ := he'; exact hE2
          have fit : ∀ news : List Value, (new ≠ [] → news.length = new.length * sz ∧ ∀ k v, news[k]? = some v → ∃ b, a = some b ∧ w.cell? (b.add k) = some v) → True := fun _ _ => trivial
          have hnews : ∃ news : List Value, FlatRep M μ sz new news.toArray ∧ (new.length ≠ 0 → ∃ x, a = some x ∧ news.length = new.length * sz ∧ ∀ j v, news[j]? = some v → w.cell? (x.add j) = some v) ∧ (new.length = 0 → news = []) := by
            by_cases h0 : new = []
            · subst h0; exact ⟨[], FlatRep.nil, fun h => absurd rfl h, fun _ => rfl⟩
            · obtain ⟨b, news, x1, x2, x3, x4⟩ := hE' h0
              exact ⟨news, x4, fun _ => ⟨b, x1, x2, x3⟩, fun h => absurd (List.eq_nil_of_length_eq_zero h) h0⟩
          obtain ⟨news, hf, hn1, hn2⟩ := hnews
          have haddr : (⟨rb.b, rb.base + off * rb.esz, none⟩ : Addr).add (len * sz) = ⟨rb.b, rb.base + (off + len) * rb.esz, none⟩ := by
            rw [addr_off]
            by_cases h0 : es = []
            · subst h0; simp at hol; simp [hol.1, hol.2]
            · rw [hesz h0, Nat.add_mul, Nat.add_assoc]
          cases ex with
          | true =>
            have hlc := h4 rfl
            simp only [cond_true] at e
            by_cases hnil : new = []
            · subst hnil
              simp at e; subst e
              refine says_val s ?_ (.own (M := M) μ j off len rb hr hcap)
              have := run_append_fit (P := P) (w := w) (ty := ty) hu hsz ⟨rb.b, rb.base + off * rb.esz, none⟩ a len (rb.cap - off) 0 c [] (by omega) (fun h => absurd rfl h) (fun _ => rfl)
              simpa [storeCells] using this
            rw [show new.isEmpty = false by cases new with
              | nil => exact absurd rfl hnil
              | cons _ _ => rfl, cond_false] at e
            cases hfit : Nat.ble (off + len + new.length) es.length with
            | true =>
              simp only [hfit, cond_true] at e
              replace e := bifF e; obtain ⟨hfz, e⟩ := e
              obtain ⟨h', hset, rfl⟩ := mapOpt e
              subst hfz
              simp only [Nat.ble_eq] at hfit
              obtain ⟨w', k1, k2, k3⟩ := row_write (P := P) s hr hb hf (fun hne => hesz (by intro h; subst h; exact hne (List.eq_nil_of_length_eq_zero (by simp only [List.length_nil] at hfit; omega)))) hol (by omega) (fun _ => hfit) (by intro h; cases h) hset
              refine ⟨M, μ, w', _, ?_, k2, k3, .own (M := M) μ j off (len + new.length) rb hr (by omega)⟩
              have := run_append_fit (P := P) (w := w) (ty := ty) hu hsz ⟨rb.b, rb.base + off * rb.esz, none⟩ a len (rb.cap - off) new.length c news (by omega) hn1 hn2
              rw [haddr, k1] at this
              simp only [Sem.run_bind, this, Result.andThen, Sem.run_pure]
            | false =>
              simp only [hfit, cond_false] at e
              obtain ⟨h', hnw, rfl⟩ := mapOpt e
              have hlt : es.length < off + len + new.length := by
                rcases Nat.lt_or_ge es.length (off + len + new.length) with h | h
                · exact h
                · rw [Nat.ble_eq_true_of_le h] at hfit; cases hfit
              have hne : new ≠ [] := by intro h; subst h; simp at hlt; omega
              obtain ⟨w', arr, rest, cap, g1, g2, g3, g4, g5, g6, g7, g8⟩ := grow_ok (ty := ty) (c := c) (sCap := rb.cap - off) hu hti hiz hsn hzn hn0 hO hE' (by intro h; cases h) (by rw [hol2]; omega) hne (by rw [hol2]; exact hsm) hby
              obtain ⟨μ', k1, k2, k3⟩ := row_new s hn0 g2 (by simpa using g3) (by simpa using g4) hnw g5 g6 g7 g8
              rw [hol2] at g1
              exact ⟨M, μ', w', _, by simp only [Sem.run_bind, g1, Result.andThen, Sem.run_pure], k1, k2, k3 _ (by rw [List.length_append, hol2]; exact Nat.le_refl _)⟩
          | false =>
            simp only [cond_false] at e
            replace e := bifT e; obtain ⟨hc, e⟩ := e
            simp only [Bool.and_eq_true, Nat.beq_eq, Nat.blt_eq] at hc
            obtain ⟨⟨hle, rfl⟩, hlp⟩ := hc
            split at e
            · rename_i h1' hdead
              obtain ⟨h', hnw, rfl⟩ := mapOpt e
              obtain ⟨d1, d2⟩ := Hp.get_set hdead
              obtain ⟨n1, n2, n3⟩ := Hp.get_new hnw
              have hid : id ≠ j := by intro e; subst e; rw [d1, if_pos rfl] at n1; cases n1
              have hgid : h.get id = none := by rw [d1, if_neg hid] at n1; exact n1
              have hene : es ≠ [] := by intro h; subst h; simp at hle; omega
              by_cases hroom : len + new.length ≤ rb.cap
              · have hset2 : ∃ h2, h.set j (.row (lput es len new) false fz) = some h2 := by
                  unfold Hp.set at hdead ⊢
                  cases hj : Nat.blt j (j + 1) with
                  | true => exact ⟨_, rfl⟩
                  | false => rw [hj] at hdead; cases hdead
                obtain ⟨h2, hset2⟩ := hset2
                obtain ⟨w', k1, k2, k3⟩ := row_write (P := P) s hr hb hf (fun _ => hesz hene) (by omega) hroom (by intro h; cases h) (fun _ => hle) hset2
                obtain ⟨t1, t2⟩ := Hp.get_set hset2
                have hput : lput es len new = es ++ new := by
                  unfold lput; rw [hle]; simp
                have hR := k2.rename (j := j) (id := id) (h' := h') (b := .row (es ++ new) false fz) (by rw [t1, if_pos rfl, hput]) hr trivial (by rw [t1, if_neg hid]; exact hgid) (fun k => by
                  rw [n2, d1, t1]
                  by_cases e1 : k = id
                  · rw [if_pos e1, if_pos e1]
                  · rw [if_neg e1, if_neg e1]; split <;> rfl)
                refine ⟨M, _, w', _, ?_, hR.1, k3.trans hR.2, .own (M := M) _ id 0 (len + new.length) rb (by simp [upd]) (by omega)⟩
                have := run_append_fit (P := P) (w := w) (ty := ty) hu hsz ⟨rb.b, rb.base + 0 * rb.esz, none⟩ a len (rb.cap - 0) new.length c news (by omega) hn1 hn2
                rw [haddr, Nat.zero_add, k1] at this
                simp only [Sem.run_bind, this, Result.andThen, Sem.run_pure]
              · have sD := s.update (w' := w) hb hr trivial d1 (fun _ _ => rfl) rfl trivial (fun a v hm ha => ⟨(s.mem a v hm).2, trivial⟩)
                have hne : new ≠ [] := by intro h; subst h; simp at hroom; omega
                have htk : (es.drop 0).take len = es := by rw [hle]; simp
                rw [htk] at hO
                obtain ⟨w', arr, rest, cap, g1, g2, g3, g4, g5, g6, g7, g8⟩ := grow_ok (ty := ty) (c := c) (sCap := rb.cap - 0) hu hti hiz hsn hzn hn0 hO hE' (by intro h; cases h) (by omega) hne (by omega) hby
                obtain ⟨μ', k1, k2, k3⟩ := row_new sD hn0 g2 (by simpa using g3) (by simpa using g4) hnw g5 g6 g7 g8
                rw [← hle] at g1
                exact ⟨M, μ', w', _, by simp only [Sem.run_bind, g1, Result.andThen, Sem.run_pure], k1, k2, k3 _ (by rw [List.length_append]; omega)⟩
            · cases e
        · cases e
      · cases e
    · cases e
  · cases e
end
end Go.Proofs.YtfecnejgdafbcaaGreatDoor.Pi
