/- A part of the evaluator of the model's code and of its soundness, for any program. No condition. -/
import Derived.Test.YtfecnejgdafbcaaGreatDoorPiZG
namespace Go.Proofs.YtfecnejgdafbcaaGreatDoor.Pi
set_option linter.all false
variable [Gl]
section
variable {P : Program} {rec : Rec}

theorem put_other {nt : Nat} {dst : Option Nat} {v : PV} {t t' : T PV} (hnt : nt ≤ 1048575) (h : PutT nt dst v t t') {k : Nat} (hk : dst ≠ some k) : t'.get k = t.get k := by
  unfold PutT at h
  cases hd : dst with
  | none => rw [hd] at h; rw [show t' = t from h]
  | some d =>
    rw [hd] at h
    obtain ⟨h1, rfl⟩ := h
    rw [T.get_put 20 t d v k (by have : (2 : Nat) ^ 20 - 1 = 1048575 := by decide
                                 omega), if_neg (by intro e; subst e; exact hk hd)]
theorem put_same {nt d : Nat} {v : PV} {t t' : T PV} (hnt : nt ≤ 1048575) (h : PutT nt (some d) v t t') : d < nt ∧ t'.get d = some v := by
  obtain ⟨h1, rfl⟩ := h
  exact ⟨h1, by rw [T.get_put 20 t d v d (by have : (2 : Nat) ^ 20 - 1 = 1048575 := by decide
                                             omega), if_pos rfl]⟩
/-- the heap and the temporaries between two points of the text's run, where nobody writes -/
theorem steps_hp {base nt n : Nat} {opsl : List Oper} {tr : Tr} (hst : ∀ j, j < n → ∃ o, opsl[j]? = some o ∧ tr.StepAt P rec base nt opsl j o)
    (hun : ∀ j, j < n → ∀ x, x ∉ tr.wr j → (tr.hp (j + 1)).get x = (tr.hp j).get x) {x a : Nat} : ∀ b, a ≤ b → b ≤ n → (∀ j, a ≤ j → j < b → x ∉ tr.wr j) → (tr.hp b).get x = (tr.hp a).get x
  | 0, ha, _, _ => by have : a = 0 := by omega
                      subst this; rfl
  | b + 1, ha, hb, h => by
    by_cases he : a = b + 1
    · subst he; rfl
    · rw [hun b (by omega) x (h b (by omega) (by omega)), steps_hp hst hun b (by omega) (by omega) fun j h1 h2 => h j h1 (by omega)]
theorem steps_ts {n : Nat} {ops : Array Oper} {tr : Tr} (hun : ∀ j o, j < n → ops[j]? = some o → ∀ k, o.dst ≠ some k → (tr.ts (j + 1)).get k = (tr.ts j).get k) (hops : ops.size = n) {k a : Nat} : ∀ b, a ≤ b → b ≤ n → (∀ j o, a ≤ j → j < b → ops[j]? = some o → o.dst ≠ some k) → (tr.ts b).get k = (tr.ts a).get k
  | 0, ha, _, _ => by have : a = 0 := by omega
                      subst this; rfl
  | b + 1, ha, hb, h => by
    by_cases he : a = b + 1
    · subst he; rfl
    · have ho := Array.getElem?_eq_getElem (xs := ops) (i := b) (by omega)
      rw [hun b _ (by omega) ho k (h b _ (by omega) (by omega) ho), steps_ts hun hops b (by omega) (by omega) fun j o h1 h2 h3 => h j o h1 (by omega) h3]

theorem guard_agree {ops : Array Oper} {t tS : T PV} {g : Option (Nat × Bool)} (h : ∀ k, bit (guardBit ops.toList g) k = true → tS.get k = t.get k) : wantedP ops.toList tS g = wantedP ops.toList t g := by
  unfold wantedP
  cases g with
  | none => rfl
  | some g =>
    obtain ⟨j, want⟩ := g
    simp only
    cases hj : lget ops.toList j with
    | none => rfl
    | some o =>
      simp only
      cases hd : o.dst with
      | none => rfl
      | some d =>
        simp only
        rw [h d (by simp only [guardBit, hj, hd, dstBit, bit_pow]; simp)]

theorem drawn_ok (R : RecOK P rec) : DrawnOK P rec := by
  intro ops base fr fr' h h' e hm M μ w b a cs k t s f
  unfold drawn at e
  split at e
  · rename_i ms hmarks
    split at e
    · rename_i tE hE hgo
      cases e
      let n := ops.size
      obtain ⟨⟨ms', hms', hmslen⟩, hms⟩ := marks_ok ops.toList 0 [] ms hmarks rfl
      simp only [Nat.zero_add] at hms
      obtain ⟨tr, k1, k2, k3, k4, _, k6⟩ := go_trace ops.toList ms 0 [] fr.t h hgo (fun _ => []) (fun _ => []) (fun k hk => by omega)
      simp only [Nat.zero_add, Array.length_toList] at k3 k4 k6
      have hnt : fr.nt ≤ 1048575 := by have := f.t.1; omega
      -- the operations, their marks
      have opAt : ∀ j, j < n → ∃ o m, ops[j]? = some o ∧ ms[j]? = some m ∧ MkAt ops.toList ms j o m ∧ tr.StepAt P rec base fr.nt ops.toList j o ∧ ∀ k, k < j → tr.Clear m.bef j k := by
        intro j hj
        have ho : ops[j]? = some ops[j] := Array.getElem?_eq_getElem hj
        obtain ⟨m, hm1, hm2⟩ := hms j ops[j] (by simp)
        obtain ⟨q1, q2⟩ := k6 j ops[j] m (by simp) hm1
        exact ⟨_, m, ho, hm1, hm2, q1, q2⟩
      have hedge : ∀ i o, ops[i]? = some o → ∀ e ∈ o.after.toList, Region.binds .any e = true → e.on < i := by
        intro i o ho e he hb
        obtain ⟨m, _, hm2⟩ := hms i o (by simpa using ho)
        exact edgesOk_get hm2.2.2.2.1 e he hb
      obtain ⟨sn, smem, spre⟩ := sched_ok (mixed := P.follows .mixedOrders) hm hedge t
      generalize Region.schedule (P.follows .mixedOrders) ops t = σ at sn smem spre
      have befIn := bef_in hms spre
      -- no clash of temporaries
      have tclear : ∀ i o m, ops[i]? = some o → ms[i]? = some m → MkAt ops.toList ms i o m → ∀ j o' m', ops[j]? = some o' → ms[j]? = some m' → MkAt ops.toList ms j o' m' → j < i →
          bit m.bef j = true ∨ (apart m'.wr (Nat.lor m.rd m.wr) = true ∧ apart m'.rd m.wr = true) := by
        intro i o m ho hmi hat j o' m' ho' hmj hat' hlt
        have := marksOk_get hat.2.2.2.2 j m' (by rw [List.getElem?_take, if_pos hlt]; exact hmj)
        simpa using this
      -- where an operation stands in the drawn order
      have place : ∀ {p : List Nat} {i : Nat} {q : List Nat}, σ = p ++ i :: q → ∀ o m, ops[i]? = some o → ms[i]? = some m → MkAt ops.toList ms i o m →
          i ∉ p ∧ (∀ j, bit m.bef j = true → j ∈ p) ∧ (∀ j o' m', ops[j]? = some o' → ms[j]? = some m' → bit m'.bef i = true → j ∉ p) := by
        intro p i q he o m ho hmi hat
        rw [he] at sn
        have hip : i ∉ p := by
          intro hin
          have := (List.nodup_append.1 sn).2.2 i hin i (by simp)
          exact this rfl
        refine ⟨hip, fun j hj => befIn i o m ho hmi p q he j hj, ?_⟩
        intro j o' m' ho' hmj hb hin
        obtain ⟨p1, p2, hp⟩ := List.append_of_mem hin
        have := befIn j o' m' ho' hmj p1 (p2 ++ i :: q) (by rw [he, hp]; simp) i hb
        exact hip (by rw [hp]; simp [this])
      have claimT : ∀ {p : List Nat} {i : Nat} {q : List Nat}, σ = p ++ i :: q → ∀ o m, ops[i]? = some o → ms[i]? = some m → MkAt ops.toList ms i o m → ∀ d, (bit m.rd d = true ∨ bit m.wr d = true) →
          ∀ j o', ops[j]? = some o' → o'.dst = some d → (j ∈ p ↔ j < i) := by
        intro p i q he o m ho hmi hat d hd j o' ho' hdst
        obtain ⟨hip, hb1, hb2⟩ := place he o m ho hmi hat
        have hj : j < n := (Array.getElem?_eq_some_iff.1 ho').1
        obtain ⟨o2, m', ho2, hmj, hat', _, _⟩ := opAt j hj
        rw [ho'] at ho2; cases ho2
        have hwj : bit m'.wr d = true := by rw [hat'.2.1, hdst]; simp only [dstBit, bit_pow]; simp
        rcases Nat.lt_trichotomy j i with hlt | rfl | hgt
        · refine ⟨fun _ => hlt, fun _ => ?_⟩
          rcases tclear i o m ho hmi hat j o' m' ho' hmj hat' hlt with hb | ⟨c1, _⟩
          · exact hb1 j hb
          · exact absurd ⟨hwj, by rw [bit_lor]; rcases hd with h | h <;> simp [h]⟩ (apart_no c1 d)
        · exact ⟨fun h => absurd h hip, fun h => by omega⟩
        · refine ⟨fun hin => ?_, fun h => by omega⟩
          rcases tclear j o' m' ho' hmj hat' i o m ho hmi hat hgt with hb | ⟨c1, c2⟩
          · exact absurd hin (hb2 j o' m' ho' hmj hb)
          · rcases hd with h | h
            · exact absurd ⟨h, hwj⟩ (apart_no c2 d)
            · exact absurd ⟨h, by rw [bit_lor, hwj]; simp⟩ (apart_no c1 d)
      have claimH : ∀ {p : List Nat} {i : Nat} {q : List Nat}, σ = p ++ i :: q → i < n → ∀ x, x ∈ tr.rd i → ∀ j, j < n → x ∈ tr.wr j → (j ∈ p ↔ j < i) := by
        intro p i q he hi x hx j hj hxj
        obtain ⟨o, m, ho, hmi, hat, hstep, hcl⟩ := opAt i hi
        obtain ⟨o', m', ho', hmj, hat', hstep', hcl'⟩ := opAt j hj
        obtain ⟨hip, hb1, hb2⟩ := place he o m ho hmi hat
        rcases Nat.lt_trichotomy j i with hlt | rfl | hgt
        · refine ⟨fun _ => hlt, fun _ => ?_⟩
          rcases hcl j hlt with hb | ⟨c1, c2⟩
          · exact hb1 j hb
          · exact absurd ⟨hxj, hx⟩ (meets_false c1 x)
        · exact ⟨fun h => absurd h hip, fun h => by omega⟩
        · refine ⟨fun hin => ?_, fun h => by omega⟩
          rcases hcl' i hgt with hb | ⟨c1, c2⟩
          · exact absurd hin (hb2 j o' m' ho' hmj hb)
          · exact absurd ⟨hxj, hx⟩ (meets_false c2 x)
      -- what a step of the text leaves alone
      have unH : ∀ j, j < n → (∀ x, x ∉ tr.wr j → (tr.hp (j + 1)).get x = (tr.hp j).get x) ∧ (∀ x, x ∈ tr.wr j → x ∈ tr.rd j) := by
        intro j hj
        obtain ⟨o, m, ho, hmi, hat, hstep, hcl⟩ := opAt j hj
        rcases hstep with ⟨_, v, hd, _⟩ | ⟨_, h1, _, h3, _⟩
        · obtain ⟨hS', _, c1, c2⟩ := drawnOp_any hd (tS := tr.ts j) (hS := tr.hp j) (fun _ _ => rfl) (fun _ _ => rfl)
          exact ⟨fun x hx => (c1 x hx).2, fun x hx => (c2 x hx).1⟩
        · exact ⟨fun x _ => by rw [h1], fun x hx => by rw [h3] at hx; simp at hx⟩
      have unT : ∀ j o, j < n → ops[j]? = some o → ∀ k, o.dst ≠ some k → (tr.ts (j + 1)).get k = (tr.ts j).get k := by
        intro j o hj ho k hk
        obtain ⟨o2, m, ho2, hmi, hat, hstep, hcl⟩ := opAt j hj
        rw [ho] at ho2; cases ho2
        rcases hstep with ⟨_, v, _, hp⟩ | ⟨_, _, _, _, hp⟩
        · exact put_other hnt hp hk
        · exact put_other hnt hp hk
      have hp_eq : ∀ {x a b : Nat}, a ≤ b → b ≤ n → (∀ j, a ≤ j → j < b → x ∉ tr.wr j) → (tr.hp b).get x = (tr.hp a).get x := fun h1 h2 h3 =>
        steps_hp (P := P) (rec := rec) (base := base) (nt := fr.nt) (opsl := ops.toList) (n := n) (fun j hj => let ⟨o, _, ho, _, _, hs, _⟩ := opAt j hj; ⟨o, by simpa using ho, hs⟩) (fun j hj x hx => (unH j hj).1 x hx) _ h1 h2 h3
      have ts_eq : ∀ {k a b : Nat}, a ≤ b → b ≤ n → (∀ j o, a ≤ j → j < b → ops[j]? = some o → o.dst ≠ some k) → (tr.ts b).get k = (tr.ts a).get k := fun h1 h2 h3 =>
        steps_ts unT rfl _ h1 h2 h3
      -- the run in the drawn order
      have main : ∀ (post pre : List Nat) (tS : T PV) (hS : Hp), σ = pre ++ post → InvT n ops tr pre tS → InvH n tr pre hS →
          ∃ tE hE, runOps P (fun _ => false) rec base ops.toList (post.map fun i => (i, (ops[i]?).getD default)) { fr with t := tS } hS = some (.normal, { fr with t := tE }, hE) ∧ InvT n ops tr σ tE ∧ InvH n tr σ hE := by
        intro post
        induction post with
        | nil =>
          intro pre tS hS he hT hH
          rw [List.append_nil] at he
          subst he
          exact ⟨tS, hS, rfl, hT, hH⟩
        | cons i post ih =>
          intro pre tS hS he hT hH
          have hi : i < n := (smem i).1 (by rw [he]; simp)
          obtain ⟨o, m, ho, hmi, hat, hstep, hcl⟩ := opAt i hi
          have cT := claimT he o m ho hmi hat
          have cH := claimH he hi
          obtain ⟨hip, _, _⟩ := place he o m ho hmi hat
          have agT : ∀ d, (bit m.rd d = true ∨ bit m.wr d = true) → tS.get d = (tr.ts i).get d := fun d hd => hT d i (by omega) (fun j o' ho' hdst => cT d hd j o' ho' hdst)
          have agH : ∀ x, x ∈ tr.rd i → hS.get x = (tr.hp i).get x := fun x hx => hH x i (by omega) (fun j hj hxj => cH x hx j hj hxj)
          have hrdbit : ∀ d, bit m.rd d = (bit (tmpBits (opnds o.op)) d || bit (guardBit ops.toList o.guard) d) := by intro d; rw [hat.1, bit_lor]
          have agO : AgreeO (tr.ts i) tS (opnds o.op) := fun d hd => (agT d (.inl (by rw [hrdbit, tmpBits_mem hd]; simp))).symm
          have hwant : wantedP ops.toList tS o.guard = wantedP ops.toList (tr.ts i) o.guard := guard_agree fun d hd => agT d (.inl (by rw [hrdbit, hd]; simp))
          -- the state behind it
          have next : ∀ {v : PV} {hS' : Hp} {fr1 : Fr}, PutT fr.nt o.dst v (tr.ts i) (tr.ts (i + 1)) → (∀ x, x ∉ tr.wr i → hS'.get x = hS.get x) → (∀ x, x ∈ tr.wr i → hS'.get x = (tr.hp (i + 1)).get x) →
              ∃ tS', PutT fr.nt o.dst v tS tS' ∧ InvT n ops tr (pre ++ [i]) tS' ∧ InvH n tr (pre ++ [i]) hS' := by
            intro v hS' _ hput h1 h2
            have hH' : InvH n tr (pre ++ [i]) hS' := by
              intro x m' hm' hw
              by_cases hx : x ∈ tr.wr i
              · have him : i < m' := (hw i hi hx).1 (by simp)
                rw [h2 x hx]
                refine (hp_eq (by omega) hm' fun j hj1 hj2 hxj => ?_).symm
                have hjn : j < n := by omega
                have hin := (hw j hjn hxj).2 hj2
                simp only [List.mem_append, List.mem_singleton] at hin
                rcases hin with hin | rfl
                · have := (cH x ((unH i hi).2 x hx) j hjn hxj).1 hin; omega
                · omega
              · rw [h1 x hx]
                refine hH x m' hm' fun j hj hxj => ?_
                have hji : j ≠ i := by intro e; subst e; exact hx hxj
                rw [← hw j hj hxj]
                simp [hji]
            have invT : ∀ tS', (∀ k, o.dst ≠ some k → tS'.get k = tS.get k) → (∀ k, o.dst = some k → tS'.get k = (tr.ts (i + 1)).get k) → InvT n ops tr (pre ++ [i]) tS' := by
              intro tS' g1 g2 k m' hm' hw
              by_cases hk : o.dst = some k
              · have him : i < m' := (hw i o ho hk).1 (by simp)
                rw [g2 k hk]
                refine (ts_eq (by omega) hm' fun j o' hj1 hj2 ho' hdst => ?_).symm
                have hin := (hw j o' ho' hdst).2 hj2
                simp only [List.mem_append, List.mem_singleton] at hin
                rcases hin with hin | rfl
                · have := (cT k (.inr (by rw [hat.2.1, hk]; simp only [dstBit, bit_pow]; simp)) j o' ho' hdst).1 hin; omega
                · omega
              · rw [g1 k hk]
                refine hT k m' hm' fun j o' ho' hdst => ?_
                have hji : j ≠ i := by intro e; subst e; rw [ho] at ho'; cases ho'; exact hk hdst
                rw [← hw j o' ho' hdst]
                simp [hji]
            cases hd : o.dst with
            | none =>
              exact ⟨tS, rfl, invT tS (fun _ _ => rfl) (fun k hk => by rw [hd] at hk; cases hk), hH'⟩
            | some d =>
              rw [hd] at hput
              obtain ⟨hlt, hget⟩ := put_same hnt hput
              have hp2 : PutT fr.nt (some d) v tS (T.put 20 tS d v) := ⟨hlt, rfl⟩
              refine ⟨T.put 20 tS d v, hp2, invT _ (fun k hk => put_other hnt hp2 (by rw [← hd]; exact hk)) (fun k hk => ?_), hH'⟩
              rw [hd] at hk; cases hk
              rw [(put_same hnt hp2).2, hget]
          have hget : (ops[i]?).getD default = o := by rw [ho]; rfl
          have frput : ∀ {v : PV} {tS' : T PV}, PutT fr.nt o.dst v tS tS' → ({ fr with t := tS } : Fr).put o.dst v = some { fr with t := tS' } := by
            intro v tS' hput
            unfold Fr.put
            cases hd : o.dst with
            | none => rw [hd] at hput; rw [show tS' = tS from hput]
            | some d =>
              rw [hd] at hput
              obtain ⟨h1, rfl⟩ := hput
              have : Nat.blt d fr.nt = true := by simpa using h1
              simp only [this, cond_true]
          have he2 : σ = (pre ++ [i]) ++ post := by rw [he]; simp
          simp only [List.map_cons, hget]
          unfold runOps
          rcases hstep with ⟨hw1, v, hd, hput⟩ | ⟨hw1, hh1, hrd, hwr, hput⟩
          · simp only [hwant, hw1, cond_true]
            obtain ⟨hS', hev, c1, c2⟩ := drawnOp_any hd agO agH
            obtain ⟨tS', p1, p2, p3⟩ := next (fr1 := fr) hput (fun x hx => (c1 x hx).1) (fun x hx => (c2 x hx).2)
            obtain ⟨tE, hE, q1, q2, q3⟩ := ih (pre ++ [i]) tS' hS' he2 p2 p3
            refine ⟨tE, hE, ?_, q2, q3⟩
            rcases hev with hev | ⟨hev, rfl⟩ | ⟨fid, args, hev, hcall⟩
            · simp only [hev, frput p1, q1]
            · simp only [hev, frput p1, q1]
            · simp only [hev, hcall, frput p1, q1]
          · simp only [hwant, hw1, cond_false]
            obtain ⟨tS', p1, p2, p3⟩ := next (fr1 := fr) (hS' := hS) hput (fun x hx => rfl) (fun x hx => by rw [hwr] at hx; simp at hx)
            obtain ⟨tE, hE, q1, q2, q3⟩ := ih (pre ++ [i]) tS' hS he2 p2 p3
            exact ⟨tE, hE, by simp only [frput p1, q1], q2, q3⟩
      obtain ⟨tE', hE', q1, q2, q3⟩ := main σ [] fr.t h rfl
        (fun k m' hm' hw => by
          rw [← k1]
          refine (ts_eq (Nat.zero_le _) hm' fun j o _ hj ho hdst => ?_).symm
          have := (hw j o ho hdst).2 hj
          simp at this)
        (fun x m' hm' hw => by
          rw [← k2]
          refine (hp_eq (Nat.zero_le _) hm' fun j _ hj hxj => ?_).symm
          have := (hw j (by omega) hxj).2 hj
          simp at this)
      have eT : ∀ k, tE'.get k = tE.get k := by
        intro k
        rw [← k3]
        exact q2 k n (Nat.le_refl _) fun j o ho _ => by rw [smem]
      have eH : ∀ x, hE'.get x = h'.get x := by
        intro x
        rw [← k4]
        exact q3 x n (Nat.le_refl _) fun j hj _ => by rw [smem]
      have hran := runOps_ok R (ops := ops) (base := base) _ q1 (fun x hx => by
        obtain ⟨i, hi, rfl⟩ := List.mem_map.1 hx
        have := (smem i).1 hi
        simp [Array.getElem?_eq_getElem this]) k s f
      have hσ : (σ.map fun i => (i, (ops[i]?).getD default)).map (·.1) = σ := by simp [List.map_map, Function.comp_def]
      rw [hσ] at hran
      obtain ⟨M', μ', w', a', cs', r1, r2, r3, r4, r5⟩ := hran
      exact ⟨M', μ', w', a', cs', r1.nx (fun x => (eH x).symm), r2, ⟨⟨r3.t.1, r3.t.2.1, fun k => by
        have := r3.t.2.2 k
        simp only at this
        rw [eT k] at this
        exact this⟩, r3.d, r3.u, r3.r⟩, r4, r5⟩
    · cases e
  · cases e
end
end Go.Proofs.YtfecnejgdafbcaaGreatDoor.Pi
