/- A part of the evaluator of the model's code and of its soundness, for any program. No condition. -/
import Derived.Test.YtfecnejgdafbcaaGreatDoorPiL
namespace Go.Proofs.YtfecnejgdafbcaaGreatDoor.Pi
set_option linter.all false
variable [Gl]
section
variable {P : Program} {M : Mem} {μ : Mu} {h : Hp} {w : World}

theorem kceq_ok {d : TypeDesc} {p q : PV} {b : Bool} {x y : Value} (e : kceq d p q = some b) (hx : Rep M μ p x) (hy : Rep M μ q y) :
    Instr.sameNow d x y = some b ∧ (b = true → Instr.sameBits 10000 y x = true) := by
  unfold kceq at e
  split at e
  · cases e; cases hx; cases hy
    rename_i a c
    exact ⟨rfl, fun hb => by have : a = c := by simpa using hb
                             subst this; simp [Instr.sameBits]⟩
  · rename_i k a k' c
    have e' := bifT e
    have hk : k = k' := by simpa using e'.1
    subst hk
    cases e'.2; cases hx; cases hy
    exact ⟨by simp [Instr.sameNow], fun hb => by have : a = c := by simpa using hb
                                                 subst this; simp [Instr.sameBits]⟩
  · cases e
    cases hx with
    | str _ s1 => cases hy with
      | str _ s2 =>
        refine ⟨by simp [Instr.sameNow, strbeq], fun hb => ?_⟩
        have h1 : s1.data.toList = s2.data.toList := by simpa using hb
        have : s1 = s2 := ByteArray.ext (Array.ext' h1)
        subst this; rw [← strbeq] at hb; simpa [Instr.sameBits] using hb
  · cases e
def EntsRep (M : Mem) (μ : Mu) (es : List (PV × PV)) (ents : List MapEntry) : Prop :=
  ents.length = es.length ∧ ∀ (i : Nat) (k v : PV) (e : MapEntry), es[i]? = some (k, v) → ents[i]? = some e → Rep M μ k e.key ∧ Rep M μ v e.val
theorem EntsRep.tail {a : PV × PV} {es : List (PV × PV)} {b : MapEntry} {ents : List MapEntry} (hr : EntsRep M μ (a :: es) (b :: ents)) : EntsRep M μ es ents :=
  ⟨by simpa using hr.1, fun i k v e h1 h2 => hr.2 (i + 1) k v e (by simpa using h1) (by simpa using h2)⟩
theorem mfind_ok {d : TypeDesc} {k : PV} {kv : Value} (hk : Rep M μ k kv) : ∀ {es : List (PV × PV)} {ents : List MapEntry} {r : Option PV} (n : Nat), EntsRep M μ es ents → mfind d es k = some r →
    ∃ o, Instr.findNow d kv ents n = some o ∧ (match r, o with
      | none, none => True
      | some v, some (_, x) => Rep M μ v x
      | _, _ => False)
  | [], ents, r, n, hr, e => by
    cases e
    cases ents with
    | nil => exact ⟨none, rfl, trivial⟩
    | cons _ _ => simp [EntsRep] at hr
  | (k1, v1) :: es, ents, r, n, hr, e => by
    cases ents with
    | nil => simp [EntsRep] at hr
    | cons b ents =>
      obtain ⟨hk1, hv1⟩ := hr.2 0 k1 v1 b rfl rfl
      unfold mfind at e
      split at e
      · rename_i hc
        cases e
        have := (kceq_ok hc hk hk1).1
        exact ⟨some (n, b.val), by simp [Instr.findNow, this], hv1⟩
      · rename_i hc
        have h0 := (kceq_ok hc hk hk1).1
        obtain ⟨o, h1, h2⟩ := mfind_ok hk (n + 1) hr.tail e
        exact ⟨o, by simp [Instr.findNow, h0, h1], h2⟩
      · cases e
theorem checkKey_ok {kt : TypeId} {d : TypeDesc} (hu : P.underlying kt = some d) (hd : keyDesc d = true) (em : Bool) (v : Value) : (Instr.checkKey em 10000 kt v).run P w = .ok () w := by
  rw [show (10000 : Nat) = 9999 + 1 from rfl]
  cases d <;> simp [keyDesc] at hd <;> (unfold Instr.checkKey; simp [und_ok hu])
theorem getObj_map {r : Nat} {ents : Array MapEntry} {clock : Nat} (hb : w.heap[r]? = some (.map ents clock)) : (getObj r).run P w = .ok (.map ents clock) w := by
  simp [getObj, Sem.run, hb]
theorem lookup_ok (s : Sim M μ h w) {ty : TypeId} {m k : PV} {x y : Value} {ok : Bool} (hx : Rep M μ m x) (hy : Rep M μ k y) {r : R} (e : evLookup P h ty m k ok = some r) :
    Says P M μ w ((do pure (.value (← Instr.lookup ty x y ok)) : Sem Next).run P w) r := by
  unfold evLookup at e
  split at e
  · rename_i kt el es hu hm
    split at e
    · rename_i d hd
      have e1 := bifF e
      have hkd : keyDesc d = true := by simpa using e1.1
      replace e := e1.2
      have hents : ∃ ents : Array MapEntry, EntsRep M μ es ents.toList ∧ ((x = .map none ∧ ents = #[]) ∨ ∃ r clock, x = .map (some r) ∧ w.heap[r]? = some (.map ents clock)) := by
        unfold mapOf at hm
        split at hm
        · cases hm; cases hx; exact ⟨#[], ⟨rfl, fun i k v e h => by simp at h⟩, .inl ⟨rfl, rfl⟩⟩
        · rename_i j
          split at hm
          · rename_i es0 hb
            cases hm
            cases hx with
            | mp _ _ r hr =>
              obtain ⟨r', hr', ents, clock, h1, h2, h3⟩ := s.blk j _ hb
              rw [hr] at hr'; cases hr'
              exact ⟨ents, ⟨by simpa using h2, fun i k v e a b => h3 i k v e a (by simpa using b)⟩, .inr ⟨_, clock, rfl, h1⟩⟩
          · cases hm
        · cases hm
      obtain ⟨ents, her, hrun⟩ := hents
      split at e
      · rename_i rr hf
        obtain ⟨o, h1, h2⟩ := mfind_ok hy 0 her hf
        have fk : (Instr.findKey kt y ents.toList).run P w = .ok o w := by simp [Instr.findKey, und_ok hd, h1]
        split at e
        · rename_i v hv
          cases e
          have fin : ∀ z, Rep M μ v z → Rep M μ (bif ok then .tup [v, .bool rr.isSome] else v) (if ok then .tuple #[z, .bool rr.isSome] else z) := by
            intro z hz
            cases ok with
            | true => exact pair_ok hz (.bool _ _)
            | false => exact hz
          cases rr with
          | some v' =>
            cases hv
            cases o with
            | none => exact h2.elim
            | some iz =>
              obtain ⟨i, z⟩ := iz
              refine says_val s (x := if ok then .tuple #[z, .bool true] else z) ?_ (fin z h2)
              rcases hrun with ⟨rfl, rfl⟩ | ⟨r, clock, rfl, hb⟩
              · simp [Instr.findNow] at h1
              · simp only [Instr.lookup, Sem.run_bind, und_ok hu, Result.andThen, getObj_map hb, checkKey_ok hd hkd, fk, Sem.run_pure]
          | none =>
            cases o with
            | some _ => exact h2.elim
            | none =>
              obtain ⟨zv, hz, hrz⟩ := zeroEl_ok hv M μ w
              refine says_val s (x := if ok then .tuple #[zv, .bool false] else zv) ?_ (fin zv hrz)
              rcases hrun with ⟨rfl, rfl⟩ | ⟨r, clock, rfl, hb⟩
              · simp only [Instr.lookup, Sem.run_bind, und_ok hu, Result.andThen, checkKey_ok hd hkd, fk, Sem.run_pure, hz]
              · simp only [Instr.lookup, Sem.run_bind, und_ok hu, Result.andThen, getObj_map hb, checkKey_ok hd hkd, fk, Sem.run_pure, hz]
        · cases e
      · cases e
    · cases e
  · cases e

/-- an entry put -/
theorem mput_ok {d : TypeDesc} {k v : PV} {kv vv : Value} (hk : Rep M μ k kv) (hv : Rep M μ v vv) : ∀ {es es' : List (PV × PV)} {ents : List MapEntry} (n : Nat), EntsRep M μ es ents → mput d es k v = some es' →
    (∃ i x old, Instr.findNow d kv ents n = some (some (n + i, x)) ∧ ents[i]? = some old ∧ Instr.sameBits 10000 old.key kv = true ∧ EntsRep M μ es' (ents.modify i fun e => { e with key := kv, val := vv })) ∨
    (Instr.findNow d kv ents n = some none ∧ ∀ born, EntsRep M μ es' (ents ++ [{ key := kv, val := vv, born }]))
  | [], es', ents, n, hr, e => by
    cases e
    cases ents with
    | nil =>
      refine .inr ⟨rfl, fun born => ⟨rfl, fun i k v e h1 h2 => ?_⟩⟩
      cases i with
      | zero => simp at h1 h2; obtain ⟨rfl, rfl⟩ := h1; subst h2; exact ⟨hk, hv⟩
      | succ i => simp at h1
    | cons _ _ => simp [EntsRep] at hr
  | (k1, v1) :: es, es', ents, n, hr, e => by
    cases ents with
    | nil => simp [EntsRep] at hr
    | cons b ents =>
      obtain ⟨hk1, hv1⟩ := hr.2 0 k1 v1 b rfl rfl
      unfold mput at e
      split at e
      · rename_i hc
        cases e
        have := kceq_ok hc hk hk1
        refine .inl ⟨0, b.val, b, by simp [Instr.findNow, this.1], rfl, this.2 rfl, ?_, fun i k v e h1 h2 => ?_⟩
        · simpa using hr.1
        · cases i with
          | zero => simp at h1 h2; obtain ⟨rfl, rfl⟩ := h1; subst h2; exact ⟨hk, hv⟩
          | succ i => exact hr.2 (i + 1) k v e (by simpa using h1) (by simpa using h2)
      · rename_i hc
        have h0 := (kceq_ok hc hk hk1).1
        split at e
        · rename_i l hl
          cases e
          have cons : ∀ {l : List (PV × PV)} {en : List MapEntry}, EntsRep M μ l en → EntsRep M μ ((k1, v1) :: l) (b :: en) := by
            intro l en hle
            refine ⟨by simp [hle.1], fun i k v e h1 h2 => ?_⟩
            cases i with
            | zero => simp at h1 h2; obtain ⟨rfl, rfl⟩ := h1; subst h2; exact ⟨hk1, hv1⟩
            | succ i => exact hle.2 i k v e (by simpa using h1) (by simpa using h2)
          rcases mput_ok hk hv (n + 1) hr.tail hl with ⟨i, x, old, a1, a2, a3, a4⟩ | ⟨a1, a2⟩
          · refine .inl ⟨i + 1, x, old, ?_, by simpa using a2, a3, ?_⟩
            · simp [Instr.findNow, h0, a1]; omega
            · have := cons a4; simpa using this
          · exact .inr ⟨by simp [Instr.findNow, h0, a1], fun born => cons (a2 born)⟩
        · cases e
      · cases e
theorem setObj_run {r : Nat} {o o' : Obj} (hb : w.heap[r]? = some o) (hc : ∀ a t f, o ≠ .cells a t f) : (setObj r o').run P w = .ok () { w with heap := w.heap.setIfInBounds r o' } := by
  unfold setObj
  simp only [Sem.run, hb]
/-- an object (no cells) replaced -/
theorem Sim.object {id : Nat} {b b' : Blk} {r : Bk} {o o' : Obj} {h' : Hp} (s : Sim M μ h w) (hb : h.get id = some b) (hr : μ id = some r) (hlive : b.live) (hs : h.set id b' = some h')
    (ho : w.heap[r.b]? = some o) (hc : ∀ a t f, o ≠ .cells a t f) (hat : BlkAt M μ r (some o') b') (hc' : ∀ a t f, o' ≠ .cells a t f := by intro a t f hc; cases hc) :
    Sim M μ h' { w with heap := w.heap.setIfInBounds r.b o' } ∧ Grow M μ w M μ { w with heap := w.heap.setIfInBounds r.b o' } := by
  have hlt : r.b < w.heap.size := (s.use id r hr).2
  have hw : ∀ k, k ≠ r.b → (w.heap.setIfInBounds r.b o')[k]? = w.heap[k]? := fun k hk => by rw [Array.getElem?_setIfInBounds, if_neg (Ne.symm hk)]
  have hat' : BlkAt M μ r (w.heap.setIfInBounds r.b o')[r.b]? b' := by rw [Array.getElem?_setIfInBounds, if_pos rfl, if_pos hlt]; exact hat
  refine ⟨s.update hb hr hlive (Hp.get_set hs).1 hw (by simp) hat' ?_, Grow.update hr hw (by simp) rfl rfl rfl (fun arr ty f h => by
    have h : (w.heap.setIfInBounds r.b o')[r.b]? = some (.cells arr ty f) := h
    rw [Array.getElem?_setIfInBounds, if_pos rfl, if_pos hlt] at h
    exact absurd (Option.some.inj h) (hc' _ _ _))⟩
  intro a v hm ha
  have := (s.mem a v hm).2
  rw [World.cell?, ha, ho] at this
  cases o <;> first | (simp at this; done) | exact absurd rfl (hc _ _ _)
theorem mapUpdate_ok (s : Sim M μ h w) {ty : TypeId} {m k v : PV} {x y z : Value} (hx : Rep M μ m x) (hy : Rep M μ k y) (hz : Rep M μ v z) {r : R} (e : evMapUpdate P h ty m k v = some r) :
    Says P M μ w ((do Instr.mapUpdate ty x y z; pure .skip : Sem Next).run P w) r := by
  unfold evMapUpdate at e
  split at e
  · rename_i kt el j hu
    split at e
    · rename_i d hd
      have e1 := bifF e
      have hkd : keyDesc d = true := by simpa using e1.1
      replace e := e1.2
      split at e
      · rename_i es hb
        split at e
        · rename_i es' hput
          obtain ⟨h', hset, rfl⟩ := mapOpt e
          cases hx with
          | mp _ _ r hr =>
            obtain ⟨r', hr', ents, clock, h1, h2, h3⟩ := s.blk j _ hb
            rw [hr] at hr'; cases hr'
            have her : EntsRep M μ es ents.toList := ⟨by simpa using h2, fun i k v e a b => h3 i k v e a (by simpa using b)⟩
            rcases mput_ok hy hz 0 her hput with ⟨i, xx, old, a1, a2, a3, a4⟩ | ⟨a1, a2⟩
            · have fk : (Instr.findKey kt y ents.toList).run P w = .ok (some (i, xx)) w := by simp [Instr.findKey, und_ok hd, a1]
              have hg : ents[i]? = some old := by simpa using a2
              have hS := s.object (o' := .map (ents.modify i fun e => { e with key := y, val := z }) clock) hb hr trivial hset h1 (by intro a t f hc; cases hc)
                ⟨_, clock, rfl, by have := a4.1; simpa using this, fun i k v e p q => a4.2 i k v e p (by
                  rw [← Array.getElem?_toList] at q
                  simpa using q)⟩
              refine ⟨M, μ, _, ?_, hS.1, hS.2⟩
              have so := setObj_run (P := P) (o' := .map (ents.modify i fun e => { e with key := y, val := z }) clock) h1 (by intro a t f hc; cases hc)
              simp only [Instr.mapUpdate, Sem.run_bind, und_ok hu, Result.andThen, getObj_map h1, checkKey_ok hd hkd, fk, hg, Option.map_some, Option.getD_some, Instr.keyThatStays, a3, if_true, Sem.run_pure, so]
            · have fk : (Instr.findKey kt y ents.toList).run P w = .ok none w := by simp [Instr.findKey, und_ok hd, a1]
              have hS := s.object (o' := .map (ents.push { key := y, val := z, born := clock }) (clock + 1)) hb hr trivial hset h1 (by intro a t f hc; cases hc)
                ⟨_, clock + 1, rfl, by have := (a2 clock).1; simpa using this, fun i k v e p q => (a2 clock).2 i k v e p (by
                  rw [← Array.getElem?_toList] at q
                  simpa using q)⟩
              refine ⟨M, μ, _, ?_, hS.1, hS.2⟩
              have so := setObj_run (P := P) (o' := .map (ents.push { key := y, val := z, born := clock }) (clock + 1)) h1 (by intro a t f hc; cases hc)
              simp only [Instr.mapUpdate, Sem.run_bind, und_ok hu, Result.andThen, getObj_map h1, checkKey_ok hd hkd, fk, so, Sem.run_pure]
        · cases e
      · cases e
    · cases e
  · cases e
end
end Go.Proofs.YtfecnejgdafbcaaGreatDoor.Pi
