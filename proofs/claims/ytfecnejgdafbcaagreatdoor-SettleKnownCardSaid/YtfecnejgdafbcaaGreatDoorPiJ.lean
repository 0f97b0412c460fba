/- A part of the evaluator of the model's code and of its soundness, for any program. No condition. -/
import Derived.Test.YtfecnejgdafbcaaGreatDoorPiI
import Derived.Laws.BytesString
namespace Go.Proofs.YtfecnejgdafbcaaGreatDoor.Pi
set_option linter.all false
variable [Gl]
section
variable {P : Program} {M : Mem} {μ : Mu} {h : Hp} {w : World}

theorem fieldPlace_ok {b off : Nat} {fd : Field} {n : Nat} (hn : tsize P fd.type = some n) (h0 : n ≠ 0) : (fieldPlace ⟨b, off, none⟩ fd).run P w = .ok ⟨b, off + fd.offset, none⟩ w := by
  simp [fieldPlace, tsize_ok hn, h0, add_none]
theorem fieldAddr_ok (s : Sim M μ h w) {sty : TypeId} {p : PV} {x : Value} {f : Nat} (hx : Rep M μ p x) {r : R} (e : evFieldAddr P h sty p f = some r) :
    Says P M μ w ((do pure (.value (← Instr.fieldAt sty x f)) : Sem Next).run P w) r := by
  unfold evFieldAddr at e
  split at e
  · rename_i fs hu
    split at e
    · rename_i fd hfd
      split at e
      · rename_i n hn
        replace e := bifF e; obtain ⟨h0, e⟩ := e
        have h0' : n ≠ 0 := by intro hc; subst hc; simp at h0
        split at e
        · rename_i j off
          cases e
          cases hx with
          | ptr _ _ _ r hr =>
            refine says_val s (x := .pointer (some ⟨r.b, r.base + off + fd.offset, none⟩)) ?_ ?_
            · simp [Instr.fieldAt, und_ok hu, hfd, Instr.sureAddr, fieldPlace_ok hn h0']
            · rw [Nat.add_assoc]; exact .ptr _ _ _ r hr
        · rename_i j i off
          cases e
          cases hx with
          | ept _ _ _ _ r hr =>
            refine says_val s (x := .pointer (some ⟨r.b, r.base + i * r.esz + off + fd.offset, none⟩)) ?_ ?_
            · simp [Instr.fieldAt, und_ok hu, hfd, Instr.sureAddr, fieldPlace_ok hn h0']
            · rw [Nat.add_assoc (r.base + i * r.esz)]; exact .ept _ _ _ _ r hr
        · rename_i cs
          cases e
          cases hx with
          | view _ _ b off x hm h1 hr =>
            refine says_val s (x := .pointer (some ⟨b, off + fd.offset, none⟩)) ?_ ?_
            · simp [Instr.fieldAt, und_ok hu, hfd, Instr.sureAddr, fieldPlace_ok hn h0']
            · refine .view _ _ _ _ (fun j => x (fd.offset + j)) (fun j c hj => ?_) (fun j c hj => h1 _ c (by simpa using hj)) (fun j c hj => hr _ c (by simpa using hj))
              rw [Nat.add_assoc]; exact hm _ c (by simpa using hj)
        · cases e
      · cases e
    · cases e
  · cases e
theorem field_ok (s : Sim M μ h w) {ty : TypeId} {p : PV} {x : Value} {f : Nat} (hx : Rep M μ p x) {r : R} (e : evField P h ty p f = some r) :
    Says P M μ w ((do pure (.value (← Instr.field ty x f)) : Sem Next).run P w) r := by
  unfold evField at e
  split at e
  · rename_i fs cs hu
    split at e
    · rename_i fd hfd
      obtain ⟨v, hv, rfl⟩ := vl_ok e
      cases hx with
      | agg _ _ vs hl h1 hr =>
        obtain ⟨y, hy, hry, _⟩ := part_ok (P := P) hv (M := M) (μ := μ) (vs := vs) (off := fd.offset) (RepL.drop ⟨by simpa using hl, fun i c v a b => hr i c v a (by simpa using b)⟩ fd.offset) h1 w
        exact says_val s (by simp [Instr.field, und_ok hu, hfd, asAgg, hy]) hry
    · cases e
  · cases e
theorem indexAddr_ok (s : Sim M μ h w) {ty : TypeId} {p q : PV} {x y : Value} (hx : Rep M μ p x) (hy : Rep M μ q y) {r : R} (e : evIndexAddr P h ty p q = some r) :
    Says P M μ w ((do pure (.value (← Instr.indexAt ty x y)) : Sem Next).run P w) r := by
  unfold evIndexAddr at e
  split at e
  · rename_i el k hu hk
    obtain ⟨kk, i, rfl, rfl, hi0, rfl⟩ := asNat_ok hk hy
    split at e
    · rename_i n hn
      split at e
      · rename_i full es
        split at e
        · rename_i e1 he1
          rw [lget_eq] at he1
          replace e := bifT e; obtain ⟨hl, e⟩ := e
          cases e
          simp at hl
          have hi : i.toNat < es.length := (List.getElem?_eq_some_iff.1 he1).1
          cases hx with
          | lst0 => simp at hi
          | lst _ _ _ b off esz cap x hf hc hs hm h1 hr =>
            have hz : esz = n := by rw [← hl]; exact (hs _ _ he1).symm
            subst hz
            refine says_val s (x := .pointer (some ⟨b, off + i.toNat * esz, none⟩)) ?_ ?_
            · have hb : 0 ≤ i ∧ i < (es.length : Int) := ⟨hi0, by omega⟩
              simp [Instr.indexAt, asIntOf, und_ok hu, hb, tsize_ok hn, add_none]
            · exact .view _ _ _ _ (x i.toNat) (fun j c hj => hm _ _ j c he1 hj) (fun j c hj => h1 _ _ j c he1 hj) (fun j c hj => hr _ _ j c he1 hj)
        · cases e
      · rename_i j off len
        replace e := bifT e; obtain ⟨hlt, e⟩ := e
        simp at hlt
        split at e
        · rename_i es ex fz hb0
          split at e
          · rename_i e1 he1
            rw [lget_eq] at he1
            replace e := bifT e; obtain ⟨hl, e⟩ := e
            cases e
            simp at hl
            cases hx with
            | own _ _ _ _ r hr hcap =>
              obtain ⟨r', hr', arr, ety, h1, h2, h3, h4, h5, h6, h7⟩ := s.blk j _ hb0
              rw [hr] at hr'; cases hr'
              have hz : n = r.esz := by rw [← hl]; exact h6 _ _ he1
              refine says_val s (x := .pointer (some ⟨r.b, r.base + off * r.esz + i.toNat * n, none⟩)) ?_ ?_
              · have hb : 0 ≤ i ∧ i < (len : Int) := ⟨hi0, by omega⟩
                simp [Instr.indexAt, asIntOf, und_ok hu, hb, tsize_ok hn, add_none]
              · have := Rep.ept (M := M) μ j (off + i.toNat) 0 r hr
                rw [hz]
                rwa [Nat.add_mul, Nat.add_zero, ← Nat.add_assoc] at this
          · cases e
        · cases e
      · cases e
    · cases e
  · rename_i len el k hu hk
    obtain ⟨kk, i, rfl, rfl, hi0, rfl⟩ := asNat_ok hk hy
    split at e
    · rename_i n hn
      replace e := bifT e; obtain ⟨hlt, e⟩ := e
      simp at hlt
      have hb : 0 ≤ i ∧ i < (len : Int) := ⟨hi0, by omega⟩
      split at e
      · rename_i j off
        cases e
        cases hx with
        | ptr _ _ _ r hr =>
          refine says_val s (x := .pointer (some ⟨r.b, r.base + off + i.toNat * n, none⟩)) ?_ ?_
          · simp [Instr.indexAt, asIntOf, und_ok hu, hb, tsize_ok hn, add_none, Instr.sureAddr]
          · rw [Nat.add_assoc]; exact .ptr _ _ _ r hr
      · rename_i j i' off
        cases e
        cases hx with
        | ept _ _ _ _ r hr =>
          refine says_val s (x := .pointer (some ⟨r.b, r.base + i' * r.esz + off + i.toNat * n, none⟩)) ?_ ?_
          · simp [Instr.indexAt, asIntOf, und_ok hu, hb, tsize_ok hn, add_none, Instr.sureAddr]
          · rw [Nat.add_assoc (r.base + i' * r.esz)]; exact .ept _ _ _ _ r hr
      · rename_i cs
        cases e
        cases hx with
        | view _ _ b off x hm h1 hr =>
          refine says_val s (x := .pointer (some ⟨b, off + i.toNat * n, none⟩)) ?_ ?_
          · simp [Instr.indexAt, asIntOf, und_ok hu, hb, tsize_ok hn, add_none, Instr.sureAddr]
          · refine .view _ _ _ _ (fun j => x (i.toNat * n + j)) (fun j c hj => ?_) (fun j c hj => h1 _ c (by simpa using hj)) (fun j c hj => hr _ c (by simpa using hj))
            rw [Nat.add_assoc]; exact hm _ c (by simpa using hj)
      · cases e
    · cases e
  · cases e
theorem bytes_get (s : ByteArray) (k : Nat) : s[k]? = s.data.toList[k]? := by
  by_cases hk : k < s.size
  · rw [ByteArray.getElem?_lt' s k hk]
    have : k < s.data.toList.length := by simpa using hk
    rw [List.getElem?_eq_getElem this]
    rfl
  · rw [ByteArray.getElem?_ge' s k hk, List.getElem?_eq_none]
    simpa using hk
theorem index_ok (s : Sim M μ h w) {ty : TypeId} {p q : PV} {x y : Value} (hx : Rep M μ p x) (hy : Rep M μ q y) {r : R} (e : evIndex P h ty p q = some r) :
    Says P M μ w ((do pure (.value (← Instr.index ty x y)) : Sem Next).run P w) r := by
  unfold evIndex at e
  split at e
  · rename_i len el cs k hu hk
    obtain ⟨kk, i, rfl, rfl, hi0, rfl⟩ := asNat_ok hk hy
    replace e := bifT e; obtain ⟨hlt, e⟩ := e
    simp at hlt
    split at e
    · rename_i n hn
      obtain ⟨v, hv, rfl⟩ := vl_ok e
      cases hx with
      | agg _ _ vs hl h1 hr =>
        obtain ⟨z, hz, hrz, _⟩ := part_ok (P := P) hv (M := M) (μ := μ) (vs := vs) (off := i.toNat * n) (RepL.drop ⟨by simpa using hl, fun i c v a b => hr i c v a (by simpa using b)⟩ _) h1 w
        have hb : 0 ≤ i ∧ i < (len : Int) := ⟨hi0, by omega⟩
        exact says_val s (by simp [Instr.index, asIntOf, und_ok hu, hb, tsize_ok hn, hz]) hrz
    · cases e
  · rename_i l k hu hk
    obtain ⟨kk, i, rfl, rfl, hi0, rfl⟩ := asNat_ok hk hy
    split at e
    · rename_i b hb
      cases e
      rw [lget_eq] at hb
      cases hx with
      | str _ sb =>
        have hg : sb[i.toNat]? = some b := by rw [bytes_get]; exact hb
        refine says_val s (x := .int .u8 b.toNat) ?_ (.int _ _ _)
        simp [Instr.index, asIntOf, und_ok hu, hi0, hg]
    · cases e
  · cases e
theorem extract_ok (s : Sim M μ h w) {p : PV} {x : Value} {i : Nat} (hx : Rep M μ p x) {r : R} (e : evExtract h p i = some r) :
    Says P M μ w ((do pure (.value (← Instr.extract x i)) : Sem Next).run P w) r := by
  unfold evExtract at e
  split at e
  · rename_i vs
    obtain ⟨v, hv, rfl⟩ := vl_ok e
    rw [lget_eq] at hv
    cases hx with
    | tup _ _ va hl hr =>
      have hi : i < va.size := by rw [← hl]; exact (List.getElem?_eq_some_iff.1 hv).1
      have hg := Array.getElem?_eq_getElem hi
      exact says_val s (x := va[i]) (by simp [Instr.extract, hg]) (hr _ _ _ hv hg)
  · cases e
theorem zeroEl_ok {ty : TypeId} {z : PV} (e : zeroEl P ty = some z) (M : Mem) (μ : Mu) (w : World) : ∃ zv, (zeroValue ty).run P w = .ok zv w ∧ Rep M μ z zv := by
  unfold zeroEl at e
  split at e
  · rename_i i hi
    split at e
    · rename_i zv hz; exact ⟨zv, by simp [zeroValue, typeInfo, hi, hz], ofVal_ok e M μ⟩
    · cases e
  · cases e
theorem pair_ok {a b : PV} {x y : Value} (ha : Rep M μ a x) (hb : Rep M μ b y) : Rep M μ (.tup [a, b]) (.tuple #[x, y]) :=
  .tup _ _ _ rfl fun i c v hc hv => by
    match i with
    | 0 => simp at hc hv; subst hc; subst hv; exact ha
    | 1 => simp at hc hv; subst hc; subst hv; exact hb
    | i + 2 => simp at hc
theorem assert_ok (s : Sim M μ h w) {xty ty : TypeId} {p : PV} {x : Value} {ok : Bool} (hx : Rep M μ p x) {r : R} (e : evAssert P h ty p ok = some r) :
    Says P M μ w ((do pure (.value (← Instr.typeAssert x xty ty ok)) : Sem Next).run P w) r := by
  have holds : ∀ {q : PV} {v : Value}, Rep M μ q v → Rep M μ (asserted ok q) (if ok then .tuple #[v, .bool true] else v) := by
    intro q v hq
    cases ok with
    | true => exact pair_ok hq (.bool _ _)
    | false => exact hq
  have fails : ∀ {z : PV}, ok = true → zeroEl P ty = some z → ∃ zv, (zeroValue ty).run P w = .ok zv w ∧ Rep M μ (.tup [z, .bool false]) (.tuple #[zv, .bool false]) := by
    intro z _ hz
    obtain ⟨zv, h1, h2⟩ := zeroEl_ok hz M μ w
    exact ⟨zv, h1, pair_ok h2 (.bool _ _)⟩
  unfold evAssert at e
  split at e
  · rename_i want hu
    split at e
    · rename_i u a
      split at e
      · rename_i i hi
        cases hx with
        | ifc _ _ _ v hr =>
          split at e
          · rename_i hm
            cases e
            refine says_val s (x := if ok then .tuple #[.iface u v, .bool true] else .iface u v) ?_ (holds (.ifc _ _ _ _ hr))
            simp [Instr.typeAssert, und_ok hu, info_ok hi, hm]
          · rename_i mm hm
            replace e := bifT e; obtain ⟨rfl, e⟩ := e
            split at e
            · rename_i z hz
              cases e
              obtain ⟨zv, h1, h2⟩ := fails rfl hz
              exact says_val s (by simp [Instr.typeAssert, und_ok hu, info_ok hi, hm, h1]) h2
            · cases e
      · cases e
    · replace e := bifT e; obtain ⟨rfl, e⟩ := e
      cases hx
      split at e
      · rename_i z hz
        cases e
        obtain ⟨zv, h1, h2⟩ := fails rfl hz
        exact says_val s (by simp [Instr.typeAssert, und_ok hu, h1]) h2
      · cases e
    · cases e
  · rename_i d hnot hu
    have hni : ∀ ms, d ≠ .interface ms := fun ms hc => hnot ms hc
    split at e
    · rename_i u a
      cases hx with
      | ifc _ _ _ v hr =>
        cases hut : Nat.beq u ty with
        | true =>
          rw [hut] at e; cases e
          have hut' : u = ty := by simpa using hut
          subst hut'
          refine says_val s (x := if ok then .tuple #[v, .bool true] else v) ?_ (holds hr)
          cases d <;> first | exact absurd rfl (hni _) | simp [Instr.typeAssert, und_ok hu]
        | false =>
          rw [hut] at e
          simp only [cond_false] at e
          have hut' : u ≠ ty := by intro hc; rw [nbeqT hc] at hut; cases hut
          replace e := bifT e; obtain ⟨rfl, e⟩ := e
          split at e
          · rename_i z hz
            cases e
            obtain ⟨zv, h1, h2⟩ := fails rfl hz
            refine says_val s (x := .tuple #[zv, .bool false]) ?_ h2
            cases d <;> first | exact absurd rfl (hni _) | simp [Instr.typeAssert, und_ok hu, hut', h1]
          · cases e
    · replace e := bifT e; obtain ⟨rfl, e⟩ := e
      cases hx
      split at e
      · rename_i z hz
        cases e
        obtain ⟨zv, h1, h2⟩ := fails rfl hz
        refine says_val s (x := .tuple #[zv, .bool false]) ?_ h2
        cases d <;> first | exact absurd rfl (hni _) | simp [Instr.typeAssert, und_ok hu, h1]
      · cases e
    · cases e
  · cases e
theorem ifc_ok (s : Sim M μ h w) {ty : TypeId} {p : PV} {x : Value} (hx : Rep M μ p x) {r : R} (e : evIfc P h ty p = some r) :
    Says P M μ w ((do pure (.value (← Instr.makeInterface ty x)) : Sem Next).run P w) r := by
  unfold evIfc at e
  split at e
  · cases e
  · rename_i d hnot hu
    cases e
    have hni : ∀ ms, d ≠ .interface ms := fun ms hc => hnot ms hc
    refine says_val s (x := .iface ty x) ?_ (.ifc _ _ _ _ hx)
    cases d <;> first | exact absurd rfl (hni _) | simp [Instr.makeInterface, und_ok hu]
  · cases e
theorem u8s_int : ∀ {es : List PV} {bs : List UInt8}, u8s es = some bs → ∃ ns : List Int, es = ns.map (PV.int .u8) ∧ bs = ns.map fun n => UInt8.ofNat n.toNat
  | [], bs, e => by cases e; exact ⟨[], rfl, rfl⟩
  | v :: l, bs, e => by
    unfold u8s at e
    split at e
    · rename_i h; cases h
    · rename_i n l' h
      cases h
      cases hl : u8s l with
      | none => rw [hl] at e; cases e
      | some b =>
        rw [hl] at e
        cases e
        obtain ⟨ns, rfl, rfl⟩ := u8s_int hl
        exact ⟨n :: ns, rfl, rfl⟩
    · cases e
theorem push_data : ∀ (ns : List Int) (s : ByteArray), (ns.foldl (fun r n => r.push (UInt8.ofNat n.toNat)) s).data.toList = s.data.toList ++ ns.map fun n => UInt8.ofNat n.toNat
  | [], s => by simp
  | n :: ns, s => by
    rw [List.foldl_cons, push_data ns]
    simp [ByteArray.push]
theorem convert_ok (s : Sim M μ h w) {src dst : TypeId} {p : PV} {x : Value} (hx : Rep M μ p x) {r : R} (e : evConvert P h src dst p = some r) :
    Says P M μ w ((do pure (.value (← convert src dst x)) : Sem Next).run P w) r := by
  unfold evConvert at e
  split at e
  · rename_i k0 n d k h1 h2
    cases e
    cases hx
    refine says_val s (x := .int k (k.wrap n)) ?_ (.int _ _ _)
    simp [convert, und_ok h1, und_ok h2, Conv.intToInt]
  · rename_i l h1 h2
    cases e
    cases hx with
    | str _ sb =>
      refine says_val s (x := .string sb) ?_ (.str _ _)
      simp [convert, und_ok h1, und_ok h2]
  · rename_i full es et h1 h2
    split at e
    · rename_i bs hu hb
      cases e
      obtain ⟨ns, he, rfl⟩ := u8s_int hb
      have fin : ∀ (a : Addr) (len cap : Nat), x = .slice (some a) len cap → (loadCells a len).run P w = .ok (ns.map (Value.int .u8)).toArray w →
          Says P M μ w ((do pure (.value (← convert src dst x)) : Sem Next).run P w) (.val (.str (ns.map fun n => UInt8.ofNat n.toNat)) h) := by
        intro a len cap hx hl
        subst hx
        refine says_val s (x := .string (ns.foldl (fun r n => r.push (UInt8.ofNat n.toNat)) ByteArray.empty)) ?_ ?_
        · have := run_convert_bytes_string (P := P) w src dst et (some a) len cap h1 hu h2
          rw [run_bytesToString w a len cap ns hl] at this
          simp [this]
        · have := Rep.str (M := M) μ (ns.foldl (fun r n => r.push (UInt8.ofNat n.toNat)) ByteArray.empty)
          rw [push_data] at this
          simpa using this
      cases hx with
      | lst0 _ _ a cap hf =>
        have hn : ns = [] := by cases ns with
          | nil => rfl
          | cons n ns => cases he
        subst hn
        have hl := run_loadCells_list (P := P) w a ([] : List Value) (fun j v hv => by simp at hv)
        exact fin a 0 cap rfl hl
      | lst _ _ _ b off esz cap xs hf hc hs hm k1 hr =>
        subst he
        have hl := run_loadCells_list (P := P) w ⟨b, off, none⟩ (ns.map (Value.int .u8)) (fun j v hv => by
          rw [List.getElem?_map] at hv
          cases hj : ns[j]? with
          | none => rw [hj] at hv; cases hv
          | some n =>
            rw [hj] at hv
            cases hv
            have hje : (ns.map (PV.int .u8))[j]? = some (.int .u8 n) := by rw [List.getElem?_map, hj]; rfl
            have hsz := hs j _ hje
            have hm1 := hm j _ 0 (.int .u8 n) hje rfl
            have hr1 := hr j _ 0 (.int .u8 n) hje rfl
            have hes : esz = 1 := hsz.symm
            subst hes
            have hc1 := (s.mem _ _ hm1).2
            rw [add_none]
            have hx0 : xs j 0 = .int .u8 n := by
              generalize xs j 0 = vv at hr1
              cases hr1; rfl
            rw [hx0] at hc1
            simpa using hc1)
        rw [List.length_map] at hl
        exact fin ⟨b, off, none⟩ _ cap rfl (by simpa using hl)
    · cases e
  · cases e
end
end Go.Proofs.YtfecnejgdafbcaaGreatDoor.Pi
