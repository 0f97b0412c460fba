/- A part of the evaluator of the model's code and of its soundness, for any program. No condition. -/
import Derived.Test.YtfecnejgdafbcaaGreatDoorPiP
namespace Go.Proofs.YtfecnejgdafbcaaGreatDoor.Pi
set_option linter.all false
variable [Gl]
section
variable {P : Program} {M : Mem} {μ : Mu} {h : Hp} {w : World}

theorem argv1 {ps : List PV} {vs : List Value} {p : PV} (h : RepL M μ ps vs) (e : ps = [p]) : ∃ x, vs = [x] ∧ Rep M μ p x := by
  subst e
  obtain ⟨x, ws, rfl, hx, ht⟩ := h.cons_inv
  exact ⟨x, by rw [ht.nil_inv], hx⟩
theorem argv2 {ps : List PV} {vs : List Value} {p q : PV} (h : RepL M μ ps vs) (e : ps = [p, q]) : ∃ x y, vs = [x, y] ∧ Rep M μ p x ∧ Rep M μ q y := by
  subst e
  obtain ⟨x, ws, rfl, hx, ht⟩ := h.cons_inv
  obtain ⟨y, ws2, rfl, hy, ht2⟩ := ht.cons_inv
  exact ⟨x, y, by rw [ht2.nil_inv], hx, hy⟩

theorem FlatRep.take {n : Nat} {es : List PV} {news : List Value} (hf : FlatRep M μ n es news.toArray) (k : Nat) : FlatRep M μ n (es.take k) (news.take ((es.take k).length * n)).toArray := by
  have hl : news.length = es.length * n := by simpa using hf.1
  refine ⟨?_, fun i e he => ?_, fun i e j c he hj => ?_⟩
  · simp only [List.size_toArray, List.length_take, hl]
    exact Nat.min_eq_left (Nat.mul_le_mul_right _ (Nat.min_le_right _ _))
  · rw [List.getElem?_take] at he
    split at he
    · exact hf.2.1 i e he
    · cases he
  · have hi : i < (es.take k).length := (List.getElem?_eq_some_iff.1 he).1
    rw [List.getElem?_take] at he
    split at he
    · obtain ⟨v, h1, h2⟩ := hf.2.2 i e j c he hj
      refine ⟨v, ?_, h2⟩
      have hjn : j < n := by rw [← hf.2.1 i e he]; exact (List.getElem?_eq_some_iff.1 hj).1
      simp only [List.getElem?_toArray] at h1 ⊢
      rw [List.getElem?_take, if_pos ?_]
      · exact h1
      · have : (i + 1) * n ≤ (es.take k).length * n := Nat.mul_le_mul_right _ hi
        rw [Nat.add_mul] at this; omega
    · cases he

theorem mdel_ok {d : TypeDesc} {k : PV} {kv : Value} (hk : Rep M μ k kv) : ∀ {es es' : List (PV × PV)} {ents : List MapEntry} (n : Nat), EntsRep M μ es ents → mdel d es k = some es' →
    (∃ i x, Instr.findNow d kv ents n = some (some (n + i, x)) ∧ i < ents.length ∧ EntsRep M μ es' (ents.eraseIdx i)) ∨
    (Instr.findNow d kv ents n = some none ∧ EntsRep M μ es' ents)
  | [], es', ents, n, hr, e => by
    cases e
    cases ents with
    | nil => exact .inr ⟨rfl, hr⟩
    | cons _ _ => simp [EntsRep] at hr
  | (k1, v1) :: es, es', ents, n, hr, e => by
    cases ents with
    | nil => simp [EntsRep] at hr
    | cons b ents =>
      obtain ⟨hk1, hv1⟩ := hr.2 0 k1 v1 b rfl rfl
      unfold mdel at e
      split at e
      · rename_i hc
        cases e
        have := kceq_ok hc hk hk1
        exact .inl ⟨0, b.val, by simp [Instr.findNow, this.1], by simp, by simpa using hr.tail⟩
      · rename_i hc
        have h0 := (kceq_ok hc hk hk1).1
        split at e
        · rename_i l hl
          cases e
          have cons : ∀ {l : List (PV × PV)} {en : List MapEntry}, EntsRep M μ l en → EntsRep M μ ((k1, v1) :: l) (b :: en) := by
            intro l en hle
            refine ⟨by simp [hle.1], fun i k v e h1 h2 => ?_⟩
            cases i with
            | zero => simp at h1 h2; obtain ⟨rfl, rfl⟩ := h1; subst h2; exact ⟨hk1, hv1⟩
            | succ i => exact hle.2 i k v e (by simpa using h1) (by simpa using h2)
          rcases mdel_ok hk (n + 1) hr.tail hl with ⟨i, x, a1, a2, a3⟩ | ⟨a1, a2⟩
          · refine .inl ⟨i + 1, x, ?_, by simpa using a2, by simpa using cons a3⟩
            simp [Instr.findNow, h0, a1]; omega
          · exact .inr ⟨by simp [Instr.findNow, h0, a1], cons a2⟩
        · cases e
      · cases e

theorem foldMax {l : List PV} {vs : List Value} {k : IntKind} (f : Int → Int → Int) (g : Value → Value → Sem Value) (hg : ∀ k x k' y w, (g (.int k x) (.int k' y)).run P w = .ok (.int k (f x y)) w) :
    ∀ {m r : Int}, RepL M μ l vs → foldInt f m l k = some r → (vs.foldlM g (.int k m)).run P w = .ok (.int k r) w := by
  induction l generalizing vs with
  | nil => intro m r hr e; cases e; rw [hr.nil_inv]; simp
  | cons p l ih =>
    intro m r hr e
    cases p with
    | int k' y =>
      simp only [foldInt] at e
      replace e := bifT e; obtain ⟨hk, e⟩ := e
      obtain ⟨x, ws, rfl, hx, ht⟩ := hr.cons_inv
      cases hx
      simp only [List.foldlM_cons, Sem.run_bind, hg, Result.andThen]
      exact ih ht e
    | _ => simp [foldInt] at e

theorem builtin_ok (s : Sim M μ h w) {id : Nat} {b : Builtin} {ats : Array TypeId} {ty : TypeId} {cs : Array Bool} {args : List PV} {vs : List Value} (ha : RepL M μ args vs) {r : R} (e : pbuiltin P h id b ats args = some r) :
    Says P M μ w ((builtin b ats ty cs vs.toArray).run P w) r := by
  unfold pbuiltin at e
  split at e
  · split at e
    · rename_i x t hat
      obtain ⟨v, rfl, hv⟩ := argv1 ha rfl
      have at0 : ats[0]? = some t := hat
      split at e
      · rename_i kt el j hu
        split at e
        · rename_i es hb
          cases e
          cases hv with
          | mp _ _ rb hr =>
          obtain ⟨r', hr', ents, clock, h1, h2, h3⟩ := s.blk j _ hb
          rw [hr] at hr'; cases hr'
          refine says_val s (x := .int .i64 es.length) ?_ (.int _ _ _)
          simp [Builtin.len_, at0, und_ok hu, getObj_map h1, h2, goInt]
        · cases e
      · rename_i hu
        cases e; cases hv
        exact says_val s (x := .int .i64 0) (by simp [Builtin.len_, at0, und_ok hu, goInt]) (.int _ _ _)
      · rename_i n el hu
        cases e
        exact says_val s (x := .int .i64 n) (by simp [Builtin.len_, at0, und_ok hu, goInt]) (.int _ _ _)
      · rename_i hu
        cases e; cases hv
        exact says_val s (x := .int .i64 0) (by simp [Builtin.len_, at0, und_ok hu, goInt]) (.int _ _ _)
      · rename_i full es hu
        cases e
        cases hv <;> exact says_val s (x := .int .i64 _) (by simp [Builtin.len_, at0, und_ok hu, goInt]) (.int _ _ _)
      · rename_i j off len hu
        cases e; cases hv
        exact says_val s (x := .int .i64 len) (by simp [Builtin.len_, at0, und_ok hu, goInt]) (.int _ _ _)
      · rename_i l hu
        cases e; cases hv
        exact says_val s (x := .int .i64 _) (by simp [Builtin.len_, at0, und_ok hu, goInt]) (.int _ _ _)
      · cases e
    · cases e
  · split at e
    · rename_i x t hat
      obtain ⟨v, rfl, hv⟩ := argv1 ha rfl
      have at0 : ats[0]? = some t := hat
      split at e
      · rename_i el j off len hu
        split at e
        · rename_i es fz hb
          cases e
          cases hv with
          | own _ _ _ _ rb hr hcap =>
          obtain ⟨r', hr', arr0, ety, h1, h2, h3, h4, h5, h6, h7⟩ := s.blk j _ hb
          rw [hr] at hr'; cases hr'
          refine says_val s (x := .int .i64 (es.length - off : Nat)) ?_ (.int _ _ _)
          rw [h4 rfl]
          simp [Builtin.cap_, at0, und_ok hu, goInt]
        · cases e
      · rename_i hu
        cases e; cases hv
        exact says_val s (x := .int .i64 0) (by simp [Builtin.cap_, at0, und_ok hu, goInt]) (.int _ _ _)
      · cases e
    · cases e
  · split at e
    · rename_i p q t t' hats
      replace e := bifT e; obtain ⟨ht, e⟩ := e
      have ht := Nat.eq_of_beq_eq_true ht
      subst ht
      obtain ⟨x, y, rfl, hx, hy⟩ := argv2 ha rfl
      have : ats = #[t, t] := by rw [← Array.toArray_toList (xs := ats), hats]
      subst this
      exact app_ok s hx hy e
    · cases e
  · split at e
    · rename_i j off len q t hat
      obtain ⟨x, y, rfl, hx, hy⟩ := argv2 ha rfl
      have at0 : ats[0]? = some t := hat
      split at e
      · rename_i el es ex new hu hb hnew
        split at e
        · rename_i sz hsz
          replace e := bifF e; obtain ⟨hc, e⟩ := e
          simp only [Bool.or_eq_false_iff, Bool.not_eq_false', List.all_eq_true, Nat.beq_eq, Nat.ble_eq, Nat.blt_eq] at hc
          obtain ⟨⟨⟨hnl, hol⟩, hn0⟩, hel⟩ := hc
          obtain ⟨h', hset, rfl⟩ := mapOpt e
          obtain ⟨a, c, rfl, hE⟩ := elems_ok s hy hnew hnl hn0
          cases hx with
          | own _ _ _ _ rb hr hcap =>
          obtain ⟨r', hr', arr0, ety, h1, h2, h3, h4, h5, h6, h7⟩ := s.blk j _ hb
          rw [hr] at hr'; cases hr'
          have hesz : es ≠ [] → rb.esz = sz := by
            intro hne
            cases es with
            | nil => exact absurd rfl hne
            | cons e1 es1 => rw [← h6 0 e1 rfl]; simpa [elOk] using hel
          have hlt : (new.take len).length = Nat.min new.length len := by rw [List.length_take, Nat.min_comm]
          have hnews : ∃ news : List Value, FlatRep M μ sz (new.take len) news.toArray ∧ (Builtin.firstCells sz (Nat.min new.length len) (.slice a new.length c)).run P w = .ok news.toArray w := by
            by_cases h0 : new = []
            · subst h0
              refine ⟨[], by simpa using FlatRep.nil, ?_⟩
              have : Nat.min ([] : List PV).length len = 0 := by simp
              rw [this]
              cases a with
              | none => exact run_firstCells_none w sz 0 0 c
              | some x => exact run_firstCells_some w sz 0 x 0 c [] (by simp) (by intro j v h; simp at h)
            · obtain ⟨b, news, rfl, x2, x3, x4⟩ := hE h0
              refine ⟨_, x4.take len, ?_⟩
              refine run_firstCells_some w sz _ b _ c _ ?_ ?_
              · have := (x4.take len).1
                simpa [hlt] using this
              · intro k v hk
                rw [List.getElem?_take] at hk
                split at hk
                · exact x3 k v hk
                · cases hk
          obtain ⟨news, hf, hfc⟩ := hnews
          have hlm : (new.take len).length ≤ len := by simp; omega
          obtain ⟨w', k1, k2, k3⟩ := row_write (P := P) s hr hb hf (fun hne => hesz (by
            intro h; subst h
            have : (new.take len).length = 0 := by simp only [List.length_nil] at hol; omega
            exact hne (List.eq_nil_of_length_eq_zero this))) (by omega) (by omega) (fun _ => by omega) (by intro h; cases h) hset
          refine ⟨M, μ, w', .int .i64 (Nat.min new.length len : Nat), ?_, k2, k3, .int _ _ _⟩
          simp [builtin, Builtin.copy_, at0, und_ok hu, Builtin.lenOf, tsize_ok hsz, hfc, k1, goInt]
        · cases e
      · cases e
    · cases e
  · split at e
    · rename_i j t hat
      obtain ⟨v, rfl, hv⟩ := argv1 ha rfl
      have at0 : ats[0]? = some t := hat
      split at e
      · rename_i kt el es hu hb
        obtain ⟨h', hset, rfl⟩ := mapOpt e
        cases hv with
        | mp _ _ rb hr =>
        obtain ⟨r', hr', ents, clock, h1, h2, h3⟩ := s.blk j _ hb
        rw [hr] at hr'; cases hr'
        have hS := s.object (o' := .map #[] clock) hb hr trivial hset h1 (by intro a t f hc; cases hc) ⟨_, clock, rfl, rfl, fun i k v e p q => by simp at p⟩
        have so := setObj_run (P := P) (o' := .map #[] clock) h1 (by intro a t f hc; cases hc)
        refine ⟨M, μ, _, .tuple #[], ?_, hS.1, hS.2, .tup _ _ _ rfl (fun i c v hc => by simp at hc)⟩
        simp [builtin, Builtin.clear_, at0, und_ok hu, getObj_map h1, so]
      · cases e
    · cases e
  · split at e
    · rename_i j k t hat
      obtain ⟨x, y, rfl, hx, hy⟩ := argv2 ha rfl
      have at0 : ats[0]? = some t := hat
      split at e
      · rename_i kt el es hu hb
        split at e
        · rename_i d hd
          replace e := bifF e; obtain ⟨hkd, e⟩ := e
          have hkd : keyDesc d = true := by simpa using hkd
          split at e
          · rename_i es' hdel
            obtain ⟨h', hset, rfl⟩ := mapOpt e
            cases hx with
            | mp _ _ rb hr =>
            obtain ⟨r', hr', ents, clock, h1, h2, h3⟩ := s.blk j _ hb
            rw [hr] at hr'; cases hr'
            have her : EntsRep M μ es ents.toList := ⟨by simpa using h2, fun i k v e a b => h3 i k v e a (by simpa using b)⟩
            rcases mdel_ok hy 0 her hdel with ⟨i, xx, a1, a2, a3⟩ | ⟨a1, a2⟩
            · have fk : (Instr.findKey kt y ents.toList).run P w = .ok (some (i, xx)) w := by simp [Instr.findKey, und_ok hd, a1]
              have hlt : i < ents.size := by simpa using a2
              have her2 : (ents.eraseIdxIfInBounds i).toList = ents.toList.eraseIdx i := by
                simp [Array.eraseIdxIfInBounds, hlt]
              have hS := s.object (o' := .map (ents.eraseIdxIfInBounds i) clock) hb hr trivial hset h1 (by intro a t f hc; cases hc)
                ⟨_, clock, rfl, by have := a3.1; rw [← her2, Array.length_toList] at this; exact this, fun i k v e p q => a3.2 i k v e p (by
                  rw [← her2, Array.getElem?_toList]; exact q)⟩
              have so := setObj_run (P := P) (o' := .map (ents.eraseIdxIfInBounds i) clock) h1 (by intro a t f hc; cases hc)
              refine ⟨M, μ, _, .tuple #[], ?_, hS.1, hS.2, .tup _ _ _ rfl (fun i c v hc => by simp at hc)⟩
              simp [builtin, Builtin.delete_, at0, und_ok hu, getObj_map h1, checkKey_ok hd hkd, fk, so]
            · have fk : (Instr.findKey kt y ents.toList).run P w = .ok none w := by simp [Instr.findKey, und_ok hd, a1]
              have hS := s.object (o' := .map ents clock) hb hr trivial hset h1 (by intro a t f hc; cases hc)
                ⟨_, clock, rfl, by simpa using a2.1, fun i k v e p q => a2.2 i k v e p (by simpa using q)⟩
              have so := setObj_run (P := P) (o' := .map ents clock) h1 (by intro a t f hc; cases hc)
              refine ⟨M, μ, _, .tuple #[], ?_, hS.1, hS.2, .tup _ _ _ rfl (fun i c v hc => by simp at hc)⟩
              simp [builtin, Builtin.delete_, at0, und_ok hu, getObj_map h1, checkKey_ok hd hkd, fk, so]
          · cases e
        · cases e
      · cases e
    · cases e
  · split at e
    · rename_i k a rest
      obtain ⟨m, hm, rfl⟩ := mapOpt e
      obtain ⟨x, ws, rfl, hx, ht⟩ := ha.cons_inv
      cases hx
      refine says_val s (x := .int k m) ?_ (.int _ _ _)
      simp only [Builtin.max_]
      exact foldMax _ Builtin.max2 (fun k x k' y w => by simp [Builtin.max2]) ht hm
    · rename_i a c
      cases e
      obtain ⟨x, y, rfl, hx, hy⟩ := argv2 ha rfl
      cases hx with
      | str _ s1 => cases hy with
        | str _ s2 =>
          refine says_val s (x := .string (if !Op.bytesLess s1.data.toList s2.data.toList then s1 else s2)) ?_ ?_
          · simp [Builtin.max_, Builtin.max2, Op.stringOp, asBool, ByteArray.toList_eq]
          · cases hb : Op.bytesLess s1.data.toList s2.data.toList
            · simpa [hb] using Rep.str (M := M) μ s1
            · simpa [hb] using Rep.str (M := M) μ s2
    · cases e
  · split at e
    · rename_i k a rest
      obtain ⟨m, hm, rfl⟩ := mapOpt e
      obtain ⟨x, ws, rfl, hx, ht⟩ := ha.cons_inv
      cases hx
      refine says_val s (x := .int k m) ?_ (.int _ _ _)
      simp only [Builtin.min_]
      exact foldMax _ Builtin.min2 (fun k x k' y w => by simp [Builtin.min2]) ht hm
    · rename_i a c
      cases e
      obtain ⟨x, y, rfl, hx, hy⟩ := argv2 ha rfl
      cases hx with
      | str _ s1 => cases hy with
        | str _ s2 =>
          refine says_val s (x := .string (if Op.bytesLess s1.data.toList s2.data.toList || s1.data.toList == s2.data.toList then s1 else s2)) ?_ ?_
          · simp [Builtin.min_, Builtin.min2, Op.stringOp, asBool, ByteArray.toList_eq]
          · cases hb : (Op.bytesLess s1.data.toList s2.data.toList || s1.data.toList == s2.data.toList)
            · simpa [hb] using Rep.str (M := M) μ s2
            · simpa [hb] using Rep.str (M := M) μ s1
    · cases e
  · split at e
    · rename_i t v
      cases e
      obtain ⟨x, rfl, hx⟩ := argv1 ha rfl
      cases hx with
      | ifc _ _ _ xv hxv =>
        refine ⟨.iface t xv, ?_, .ifc _ _ _ _ hxv⟩
        simp [builtin, Instr.panic, goPanic]
    · cases e
  · cases e
    simp [Says, builtin]
  · cases e
end
end Go.Proofs.YtfecnejgdafbcaaGreatDoor.Pi
