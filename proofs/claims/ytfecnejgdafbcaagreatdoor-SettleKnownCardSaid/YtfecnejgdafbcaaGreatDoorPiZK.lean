/- A part of the evaluator of the model's code and of its soundness, for any program. No condition. -/
import Derived.Test.YtfecnejgdafbcaaGreatDoorPiZJ
namespace Go.Proofs.YtfecnejgdafbcaaGreatDoor.Pi
set_option linter.all false
variable [Gl]
/-! Answers that are known: a call of a known function at known arguments is answered from a list. -/
section
variable {P : Program} {sh : FuncId → Bool} {M : Mem} {μ : Mu} {h : Hp} {w : World}
structure Kn where
  f : FuncId
  args : List PV
  q : PV
  h : Hp
def eqbl (e : PV → PV → Bool) : List PV → List PV → Bool
  | [], [] => true
  | a :: l, b :: m => e a b && eqbl e l m
  | _, _ => false
theorem eqbl_ok {e : PV → PV → Bool} (he : ∀ a b, e a b = true → a = b) : ∀ {l m : List PV}, eqbl e l m = true → l = m
  | [], [], _ => rfl
  | a :: l, b :: m, h => by
    simp only [eqbl, Bool.and_eq_true] at h
    rw [he _ _ h.1, eqbl_ok he h.2]
  | [], _ :: _, h => by simp [eqbl] at h
  | _ :: _, [], h => by simp [eqbl] at h
def eqby : List UInt8 → List UInt8 → Bool
  | [], [] => true
  | a :: l, b :: m => Nat.beq a.toNat b.toNat && eqby l m
  | _, _ => false
theorem eqby_ok : ∀ {l m : List UInt8}, eqby l m = true → l = m
  | [], [], _ => rfl
  | a :: l, b :: m, h => by
    simp only [eqby, Bool.and_eq_true] at h
    rw [UInt8.toNat_inj.1 (Nat.eq_of_beq_eq_true h.1), eqby_ok h.2]
  | [], _ :: _, h => by simp [eqby] at h
  | _ :: _, [], h => by simp [eqby] at h
/-- the same plain value, as far as this looks -/
def eqb : Nat → PV → PV → Bool
  | 0, _, _ => false
  | n + 1, a, b => match a with
    | .bool x => (match b with
      | .bool y => x == y
      | _ => false)
    | .int k x => (match b with
      | .int k' y => k == k' && x == y
      | _ => false)
    | .str x => (match b with
      | .str y => eqby x y
      | _ => false)
    | .nilp => (match b with
      | .nilp => true
      | _ => false)
    | .nils => (match b with
      | .nils => true
      | _ => false)
    | .nilm => (match b with
      | .nilm => true
      | _ => false)
    | .nilf => (match b with
      | .nilf => true
      | _ => false)
    | .nili => (match b with
      | .nili => true
      | _ => false)
    | .agg x => (match b with
      | .agg y => eqbl (eqb n) x y
      | _ => false)
    | .tup x => (match b with
      | .tup y => eqbl (eqb n) x y
      | _ => false)
    | .lst f x => (match b with
      | .lst g y => f == g && eqbl (eqb n) x y
      | _ => false)
    | .ifc t x => (match b with
      | .ifc u y => Nat.beq t u && eqb n x y
      | _ => false)
    | .own i x y => (match b with
      | .own j u v => Nat.beq i j && (Nat.beq x u && Nat.beq y v)
      | _ => false)
    | _ => false
theorem eqb_ok : ∀ (n : Nat) (a b : PV), eqb n a b = true → a = b
  | 0, _, _, h => by simp [eqb] at h
  | n + 1, a, b, h => by
    have ih : ∀ {l m : List PV}, eqbl (eqb n) l m = true → l = m := fun h => eqbl_ok (eqb_ok n) h
    cases a <;> cases b <;> simp only [eqb, Bool.and_eq_true, beq_iff_eq, reduceCtorEq] at h <;> first
      | rfl
      | (rw [h])
      | (rw [h.1, h.2])
      | (rw [eqby_ok h])
      | (rw [ih h])
      | (rw [h.1, ih h.2])
      | (rw [Nat.eq_of_beq_eq_true h.1, eqb_ok n _ _ h.2])
      | (rw [Nat.eq_of_beq_eq_true h.1, Nat.eq_of_beq_eq_true h.2.1, Nat.eq_of_beq_eq_true h.2.2])
/-- heaps of at most one row -/
def eqh (a b : Hp) : Bool := Nat.beq a.nx b.nx && match a.m with
  | .lf => (match b.m with
    | .lf => true
    | _ => false)
  | .nd .lf (some (.row es ex fz)) .lf => (match b.m with
    | .nd .lf (some (.row es' ex' fz')) .lf => eqbl (eqb 60) es es' && (ex == ex' && fz == fz')
    | _ => false)
  | _ => false
theorem eqh_ok {a b : Hp} (h : eqh a b = true) : a = b := by
  unfold eqh at h
  rw [Bool.and_eq_true] at h
  obtain ⟨h1, h2⟩ := h
  have h1 := Nat.eq_of_beq_eq_true h1
  obtain ⟨m, x⟩ := a
  obtain ⟨m', x'⟩ := b
  simp only at h1 h2
  subst h1
  split at h2
  · split at h2
    · rfl
    · cases h2
  · split at h2
    · simp only [Bool.and_eq_true, beq_iff_eq] at h2
      rw [eqbl_ok (eqb_ok 60) h2.1, h2.2.1, h2.2.2]
    · cases h2
  · cases h2
def look : List Kn → FuncId → List PV → Option (PV × Hp)
  | [], _, _ => none
  | e :: l, f, as => bif Nat.beq e.f f && eqbl (eqb 60) e.args as then some (e.q, e.h) else look l f as
def memo (L : List Kn) (rec : Rec) : Rec := fun tg up args h => match tg with
  | .fn f => match up with
    | none => match h.m with
      | .lf => match look L f args with
        | some (q, h1) => some (.ret q, none, h1)
        | none => rec (.fn f) none args h
      | .nd _ _ _ => rec (.fn f) none args h
    | some u => rec (.fn f) (some u) args h
  | .yl l => rec (.yl l) up args h
def doM (P : Program) (sh : FuncId → Bool) (F : Nat) (L : List Kn) : Nat → Rec
  | 0 => fun _ _ _ _ => none
  | n + 1 => memo L (doS P sh F (doM P sh F L n))
/-- what a call that is not answered from the list comes to -/
def ans (P : Program) (sh : FuncId → Bool) (F : Nat) (L : List Kn) (n : Nat) (f : FuncId) (args : List PV) : Option (PV × Hp) :=
  match doS P sh F (doM P sh F L n) (.fn f) none args { m := .lf, nx := 0 } with
  | some (.ret r, _, h') => handBack 0 [] { m := .lf, nx := 0 } h' r
  | _ => none
def ansIs (P : Program) (sh : FuncId → Bool) (F : Nat) (L : List Kn) (n : Nat) (k : Kn) : Bool := match ans P sh F L n k.f k.args with
  | some (q, h) => eqb 60 q k.q && eqh h k.h
  | none => false
theorem ansIs_ok {P : Program} {sh : FuncId → Bool} {F : Nat} {L : List Kn} {n : Nat} {k : Kn} (e : ansIs P sh F L n k = true) : ans P sh F L n k.f k.args = some (k.q, k.h) := by
  unfold ansIs at e
  split at e
  · rename_i q h hq
    rw [Bool.and_eq_true] at e
    rw [hq, eqb_ok 60 _ _ e.1, eqh_ok e.2]
  · cases e
def KnOK (P : Program) (L : List Kn) : Prop := ∀ e ∈ L, ∃ rec, RecOK P rec ∧ ∃ r up h', rec (.fn e.f) none e.args { m := .lf, nx := 0 } = some (.ret r, up, h') ∧ handBack 0 [] { m := .lf, nx := 0 } h' r = some (e.q, e.h)
theorem look_ok : ∀ {L : List Kn} {f : FuncId} {as : List PV} {q : PV} {h1 : Hp}, look L f as = some (q, h1) → ∃ e ∈ L, e.f = f ∧ e.args = as ∧ e.q = q ∧ e.h = h1
  | [], _, _, _, _, h => by cases h
  | e :: l, f, as, q, h1, h => by
    unfold look at h
    cases hc : Nat.beq e.f f && eqbl (eqb 60) e.args as with
    | true =>
      rw [hc] at h
      simp only [cond_true, Option.some.injEq, Prod.mk.injEq] at h
      rw [Bool.and_eq_true] at hc
      exact ⟨e, List.mem_cons_self .., Nat.eq_of_beq_eq_true hc.1, eqbl_ok (eqb_ok 60) hc.2, h.1, h.2⟩
    | false =>
      rw [hc] at h
      obtain ⟨e', h1, h2⟩ := look_ok h
      exact ⟨e', List.mem_cons_of_mem _ h1, h2⟩
theorem frz_nil (M : Mem) (h : Hp) (μ : Mu) (w : World) : frz M h μ w [] = M := by
  funext a
  unfold frz inFrz
  cases M a <;> rfl
theorem memo_ok {L : List Kn} (K : KnOK P L) {rec : Rec} (R : RecOK P rec) : RecOK P (memo L rec) := by
  refine ⟨?_, ?_, ?_⟩
  · intro f args h o up' h' e M μ w vs s ha cs
    simp only [memo] at e
    split at e
    · rename_i hm
      split at e
      · rename_i q h1 hl
        cases e
        obtain ⟨e, he, rfl, rfl, rfl, rfl⟩ := look_ok hl
        obtain ⟨rec', R', r, up, h2, k1, k2⟩ := K e he
        have hg : ∀ k, h.get k = none := fun k => by simp only [Hp.get, hm]; rfl
        have s0 : Sim M μ { m := .lf, nx := 0 } w := s.nx fun k => by rw [hg]; rfl
        have hμ : μ = mu0 := by
          funext id
          cases hi : μ id with
          | none => rfl
          | some r => exact absurd (hg id) (s.use id r hi).1
        subst hμ
        obtain ⟨M2, μ2, w2, fr, s2, g2, st, hfn, x, hx, hgo⟩ := R'.nrm k1 s0 ha cs
        obtain ⟨M3, μ3, s3, g3, hx3⟩ := handBack_ok (L := []) s0 s2 (by rw [frz_nil]; exact g2) hx k2
        exact ⟨M3, μ3, w2, fr, s3, g3, st, hfn, x, hx3, hgo⟩
      · exact R.nrm e s ha cs
    · exact R.nrm e s ha cs
  · intro f u args h o up' h' e
    exact R.dfr e
  · intro l args h o up' h' e
    exact R.yld e
theorem doM_ok (PO : PrimOK P) {L : List Kn} (K : KnOK P L) (F : Nat) : ∀ n, RecOK P (doM P sh F L n)
  | 0 => none_rec P
  | n + 1 => memo_ok K (doS_ok PO (fun rec R => drawn_ok (P := P) (rec := rec) R) F (doM_ok PO K F n))
theorem kn_nil (P : Program) : KnOK P [] := fun e he => by cases he
theorem kn_cons (PO : PrimOK P) {L : List Kn} (K : KnOK P L) {F n : Nat} {k : Kn} (e : ansIs P sh F L n k = true) : KnOK P (k :: L) := fun k' hk => by
  rcases List.mem_cons.1 hk with rfl | hk
  · have e := ansIs_ok e
    unfold ans at e
    split at e
    · rename_i r u h' hd
      exact ⟨_, doS_ok PO (fun rec R => drawn_ok (P := P) (rec := rec) R) F (doM_ok PO K F n), r, u, h', hd, e⟩
    · cases e
  · exact K k' hk
/-- the answer in whole: with a list of known ones -/
theorem kn_call (PO : PrimOK P) {L : List Kn} (K : KnOK P L) {F n : Nat} {f : FuncId} {v : PV} {h1 : Hp} (e : ans P sh F L n f [] = some (v, h1)) (hv : flat v = true) (w : World) (gw : GlW w) :
    Calls P f #[] w fun e w' => (∃ x, e = .returned x ∧ Rep (fun _ => none) mu0 v x) ∧ w.heap.size ≤ w'.heap.size ∧ (∀ b, b < w.heap.size → w'.heap[b]? = w.heap[b]?) ∧ w'.os = w.os ∧ w'.output = w.output ∧ w'.tape = w.tape ∧ ∀ (b : Nat) (arr : Array Value) (ty : TypeId) (f : Nat × Nat), w'.heap[b]? = some (.cells arr ty f) → f = (0, 0) ∨ ∃ arr0, w.heap[b]? = some (.cells arr0 ty f) := by
  intro cs
  unfold ans at e
  split at e
  · rename_i r u h' hd
    have R := doS_ok (sh := sh) PO (fun rec R => drawn_ok (P := P) (rec := rec) R) F (doM_ok (sh := sh) PO K F n)
    obtain ⟨M0, s0⟩ := gw.sim
    obtain ⟨M', μ', w', fr, s1, g1, st, hfn, x, hx, hl⟩ := R.nrm hd s0 (RepL.nil _ _) cs
    obtain ⟨M3, μ3, s3, g3, hx3⟩ := handBack_ok (L := []) s0 s1 (by rw [frz_nil]; exact g1) hx e
    exact ⟨.returned x, w', fr, ⟨⟨x, rfl, flat_rep hv _ _ hx3⟩, g1.size, g1.keeps, g1.os, g1.output, g1.tape, g1.nf⟩, st, hfn, hl⟩
  · cases e
open Go.RowKit in
theorem kn_grown (PO : PrimOK P) {L : List Kn} (K : KnOK P L) {F n : Nat} {f : FuncId} (e : ansIs P sh F L n ⟨f, [], .bool true, ⟨.lf, 0⟩⟩ = true) (w : World) (gw : GlW w) : Calls P f #[] w fun e w' => e = .returned (.bool true) ∧ Grown w w' := by
  intro cs
  obtain ⟨e', w', fr, ⟨⟨x, he, hr⟩, hsz, hk, hos, hout, _, hnf⟩, h⟩ := kn_call PO K (ansIs_ok e) rfl w gw cs
  have he : e' = .returned (.bool true) := by rw [he]; cases hr; rfl
  refine ⟨e', w', fr, ⟨he, ⟨hos, hout, fun i hi => ?_⟩, fun a => ?_, hsz⟩, h⟩
  · rw [hk i hi]
    cases hx : w.heap[i]? with
    | none => trivial
    | some o => cases o <;> first | exact ⟨rfl, rfl, rfl, fun _ _ => rfl⟩ | exact .inr ⟨rfl, rfl⟩ | rfl
  · by_cases hlt : a.block < w.heap.size
    · simp only [World.frozen?, hk _ hlt]
    · have hn : w.heap[a.block]? = none := Array.getElem?_eq_none (by omega)
      simp only [World.frozen?, hn]
      split
      · rename_i arr ty lo hi hc
        rcases hnf _ _ _ _ hc with h0 | ⟨arr0, h0⟩
        · cases h0; simp
        · rw [hn] at h0; cases h0
      · rfl
end
end Go.Proofs.YtfecnejgdafbcaaGreatDoor.Pi
