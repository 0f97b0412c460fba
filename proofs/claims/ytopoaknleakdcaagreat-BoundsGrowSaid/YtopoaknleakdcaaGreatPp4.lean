/- A part of the evaluator of the model's code for any program, and of the proof that it is sound. No condition. -/
import Derived.Test.YtopoaknleakdcaaGreatPp3
import Derived.RowKit3
namespace Go.Proofs.YtopoaknleakdcaaGreat.Pi
/-- A function without parameters that the evaluator brings to an end: what it returns, and what it leaves alone. -/
theorem pcall_ok {P : Program} {sh : FuncId → Bool} {F n : Nat} {f : FuncId} {v : PV} (e : pcall P sh F n f [] = some v) (hv : flat v = true) (w : World) :
    Calls P f #[] w fun e w' => (∃ x, e = .returned x ∧ Rep (fun _ => none) mu0 v x) ∧ w.heap.size ≤ w'.heap.size ∧ (∀ b, b < w.heap.size → w'.heap[b]? = w.heap[b]?) ∧ w'.os = w.os ∧ w'.output = w.output ∧ w'.tape = w.tape ∧ ∀ (b : Nat) (arr : Array Value) (ty : TypeId) (f : Nat × Nat), w'.heap[b]? = some (.cells arr ty f) → f = (0, 0) ∨ ∃ arr0, w.heap[b]? = some (.cells arr0 ty f) := by
  intro cs
  unfold pcall at e
  split at e
  · rename_i r u h' hd
    obtain ⟨⟨q, l⟩, hp, rfl⟩ := mapOpt e
    have R := doN_ok (sh := sh) (fun rec R => drawn_ok (P := P) (rec := rec) R) F n
    have s0 : Sim (fun _ => none) mu0 { m := .lf, nx := 0 } w := by
      refine ⟨fun a v h => ?_, fun id b hb => ?_, fun id r hr => ?_, fun id id' r r' b b' hr => ?_, fun id r b a v hb => ?_⟩
      · cases h
      · rw [Hp.get_lf] at hb; cases hb
      · simp [mu0] at hr
      · simp [mu0] at hr
      · rw [Hp.get_lf] at hb; cases hb
    obtain ⟨M', μ', w', fr, s1, g1, st, hfn, x, hx, hl⟩ := R.nrm hd s0 (RepL.nil _ _) cs
    exact ⟨.returned x, w', fr, ⟨⟨x, rfl, flat_rep hv _ _ (pur_ok s1 l _ _ _ _ _ hp hx (fun _ h => h))⟩, g1.size, g1.keeps, g1.os, g1.output, g1.tape, g1.nf⟩, st, hfn, hl⟩
  · cases e
theorem pcall_true {P : Program} {sh : FuncId → Bool} {F n : Nat} {f : FuncId} (e : pcall P sh F n f [] = some (.bool true)) (w : World) :
    Calls P f #[] w fun e w' => e = .returned (.bool true) ∧ w.heap.size ≤ w'.heap.size ∧ (∀ b, b < w.heap.size → w'.heap[b]? = w.heap[b]?) ∧ w'.os = w.os ∧ w'.output = w.output ∧ w'.tape = w.tape ∧ ∀ (b : Nat) (arr : Array Value) (ty : TypeId) (f : Nat × Nat), w'.heap[b]? = some (.cells arr ty f) → f = (0, 0) ∨ ∃ arr0, w.heap[b]? = some (.cells arr0 ty f) := by
  intro cs
  obtain ⟨e', w', fr, ⟨⟨x, hx, hr⟩, rest⟩, h⟩ := pcall_ok e rfl w cs
  refine ⟨e', w', fr, ⟨?_, rest⟩, h⟩
  rw [hx]
  cases hr; rfl
end Go.Proofs.YtopoaknleakdcaaGreat.Pi
namespace Go.Proofs.YtopoaknleakdcaaGreat.Pi
open Go.RowKit
theorem pcall_grown {P : Program} {sh : FuncId → Bool} {F n : Nat} {f : FuncId} (e : pcall P sh F n f [] = some (.bool true)) (w : World) : Calls P f #[] w fun e w' => e = .returned (.bool true) ∧ Grown w w' := by
  intro cs
  obtain ⟨e', w', fr, ⟨he, hsz, hk, hos, hout, _, hnf⟩, h⟩ := pcall_true e w cs
  refine ⟨e', w', fr, ⟨he, ⟨hos, hout, fun i hi => ?_⟩, fun a => ?_, hsz⟩, h⟩
  · rw [hk i hi]
    cases hx : w.heap[i]? with
    | none => trivial
    | some o => cases o <;> first | exact ⟨rfl, rfl, rfl, fun _ _ => rfl⟩ | exact .inr ⟨rfl, rfl⟩ | rfl
  · by_cases hlt : a.block < w.heap.size
    · simp only [World.frozen?, hk _ hlt]
    · have hn : w.heap[a.block]? = none := Array.getElem?_eq_none (by omega)
      simp only [World.frozen?, hn]
      split
      · rename_i arr ty lo hi hc
        rcases hnf _ _ _ _ hc with h0 | ⟨arr0, h0⟩
        · cases h0; simp
        · rw [hn] at h0; cases h0
      · rfl
end Go.Proofs.YtopoaknleakdcaaGreat.Pi
namespace Go.Proofs.YtopoaknleakdcaaGreat.Pi
/-! Answers that are known: a call of a known function at known arguments is answered from a list. -/
def doS (P : Program) (sh : FuncId → Bool) (F : Nat) (rec : Rec) : Rec := fun tg up args h => match tg with
    | .fn f => match P.funcs[f]? with
      | some fn => match fn.body with
        | some c => match (bif Nat.ble args.length fn.ntmps && Nat.blt fn.ntmps 1048575 then exec P sh (rec) F c { t := setArgs 0 args .lf, nt := fn.ntmps, ds := [], up, ro := none } h else none) with
          | some (.normal, fr, h) | some (.ret, fr, h) => (match leave P (rec) fn F fr.ds .ret fr.t h with
            | some (o, h) => some (o, fr.up, h)
            | none => none)
          | some (.panic e, fr, h) => (match leave P (rec) fn F fr.ds (.pan [{ v := e, recovered := false }]) fr.t h with
            | some (o, h) => some (o, fr.up, h)
            | none => none)
          | _ => none
        | none => none
      | none => none
    | .yl l => match h.get l with
      | some (.lp _ _ nt t ps asg body0 _) => match setParams nt ps args t with
        | some t => match exec P sh (rec) F asg { t, nt, ds := [], up := none, ro := some l } h with
          | some (.normal, fr, h) => (match h.get l with
            | some (.lp 0 pend nt t ps asg body d) => (match h.set l (.lp 1 pend nt t ps asg body d) with
              | some h => match exec P sh (rec) F body0 fr h with
                | some (.normal, _, h) => roundEnd h l none
                | some (.ret, _, h) => roundEnd h l (some .ret)
                | some (.exit id, _, h) => roundEnd h l (some (.exit id))
                | some (.goto id, _, h) => roundEnd h l (some (.goto id))
                | _ => none
              | none => none)
            | _ => none)
          | _ => none
        | none => none
      | _ => none


section
variable {P : Program} {sh : FuncId → Bool} {M : Mem} {μ : Mu} {h : Hp} {w : World}
theorem doS_ok (hD : ∀ rec, RecOK P rec → DrawnOK P rec) (F : Nat) {rec : Rec} (R : RecOK P rec) : RecOK P (doS P sh F rec) := by
  have D : DrawnOK P (rec) := hD _ R
  have exA : ∀ {c : Code} {fr fr' : Fr} {h h' : Hp} {ex : Ex}, exec P sh (rec) F c fr h = some (ex, fr', h') →
    ∀ {M : Mem} {μ : Mu} {w : World} {b : Frame} {a : Act} {cs : List Frame} (k : List Item), Sim M μ h w → FrRep M μ fr b a cs → Ran P M μ w (lone (b.atR a (.code c :: k)) cs w) b k cs ex fr' h' := (exec_ok R D F).1
  refine ⟨?_, ?_, ?_⟩
  · intro f args h o up' h' e M μ w vs s ha cs
    simp only [doS] at e
    split at e
    · rename_i fn hfn
      split at e
      · rename_i c hc
        obtain ⟨M', μ', w', fr, cs', q1, q2, q3, q4, q5, q6, q7, q8⟩ := body_ok R D hfn hc e s ha .normal cs rfl
        have := tail_normal rfl q4
        subst this
        refine ⟨M', μ', w', fr, q1, q2, q3, q6, ?_⟩
        cases o with
        | ret v => obtain ⟨x, hx, h1, h2, h3⟩ := q8; exact ⟨x, hx, h1, h2, q7, h3⟩
        | pan ch => exact q8
      · cases e
    · cases e
  · intro f u args h o up' h' e M μ w vs s ha c cs hu
    simp only [doS] at e
    split at e
    · rename_i fn hfn
      split at e
      · rename_i c' hc
        obtain ⟨M', μ', w', fr, cs', q1, q2, q3, q4, q5, q6, q7, q8⟩ := body_ok R D hfn hc e s ha .deferred (c :: cs) ⟨rfl, c, cs, rfl, hu⟩
        cases up' with
        | none => cases q5
        | some u' =>
          obtain ⟨_, c1, tl, rfl, hm⟩ := q5
          rcases q4 with h0 | ⟨_, c2, tl2, m, h1, h2⟩
          · cases h0
            refine ⟨M', μ', w', fr, c.mode, u', q1, q2, q3, rfl, hm, q7, q8⟩
          · cases h1; cases h2
            exact ⟨M', μ', w', fr, m, u', q1, q2, q3, rfl, hm, q7, q8⟩
      · cases e
    · cases e
  · intro l args h o up' h' e M μ w vs r s ha hr c cs
    simp only [doS] at e
    split at e
    · rename_i st pend nt t ps asg body0 d hb
      split at e
      · rename_i t1 hset
        split at e
        · rename_i fr1 h1 hasg
          split at e
          · rename_i pend2 nt2 t2 ps2 asg2 body2 d2 hb2
            split at e
            · rename_i h2 hset2
              obtain ⟨r', hr', l1, rd, b1, b2, b3, b4, b5, b6, b7, b8, b9, b10⟩ := s.blk l _ hb
              rw [hr] at hr'; cases hr'
              obtain ⟨hlen, htm⟩ := setParams_ok hset ha b5
              have hy : (Instr.yield r.b vs.toArray).run P w = .ok (.round r.b l1.fn ((l1.params.zip vs.toArray).foldl (fun tmps (t, a) => tmps.setIfInBounds t a) l1.tmps) l1.assign l1.body) w := by
                have : ¬ (vs.toArray.size ≠ l1.params.size) := by rw [b6]; simp [hlen]
                simp only [Instr.yield, Sem.run_bind, getLoop_run b1, Result.andThen, if_neg this, Sem.run_pure]
              let b : Frame := { fn := l1.fn, tmps := #[], todo := [], defers := [], mode := .run, kind := .normal, roundOf := some r.b }
              have htm2 : TmpsRep M μ t1 nt ((l1.params.zip vs.toArray).foldl (fun tmps (t, a) => tmps.setIfInBounds t a) l1.tmps) := by
                rw [b6]
                simpa using htm
              have hb0 : ∀ tm, Frame.round r.b l1.fn tm l1.assign l1.body .normal = b.atR { tmps := tm, defers := [] } [.code asg, .beginRound, .code body0] := by
                intro tm; simp [Frame.round, Frame.atR, b, b7, b8]
              generalize (l1.params.zip vs.toArray).foldl (fun tmps (t, a) => tmps.setIfInBounds t a) l1.tmps = tm at hy htm2
              have f0 : FrRep M μ { t := t1, nt, ds := [], up := none, ro := some l } b { tmps := tm, defers := [] } (c :: cs) := ⟨htm2, trivial, rfl, r, hr, rfl⟩
              obtain ⟨M1, μ1, w1, a1, cs1, s1, g1, f1, t1', arr⟩ := exA hasg (b := b) [.beginRound, .code body0] s f0
              have := tail_normal rfl t1'
              subst this
              rw [← hb0] at arr
              -- the round begins
              obtain ⟨r2, hr2, l2, rd2, c1, c2, c3, c4, c5, c6, c7, c8, c9, c10⟩ := s1.blk l _ hb2
              rw [g1.u _ _ hr] at hr2; cases hr2
              have so := setObj_run (P := P) (o' := .loop { l2 with state := .busy }) c1 (by intro a t f hc; cases hc)
              obtain ⟨s2, g2⟩ := s1.object (o' := .loop { l2 with state := .busy }) hb2 (g1.u _ _ hr) trivial hset2 c1 (by intro a t f hc; cases hc)
                ⟨_, rd2, rfl, rfl, by decide, c4, c5, c6, c7, c8, c9, c10⟩
              have hbr : (Instr.beginRound r.b).run P w1 = .ok () { w1 with heap := w1.heap.setIfInBounds r.b (.loop { l2 with state := .busy }) } := by
                have : l2.state = .ready := c2
                simp only [Instr.beginRound, Sem.run_bind, getLoop_run c1, Result.andThen, so, this, Sem.run_pure]
              have st1 : Steps P (lone (Frame.round r.b l1.fn tm l1.assign l1.body .normal) (c :: cs) w) (lone (b.atR a1 [.code body0]) (c :: cs) _) := Steps.trans arr (.one (stepR_beginRound rfl hbr))
              have f1' := f1.mono g2.m g2.u
              -- the body
              have fin : ∀ {ex : Ex} {fr3 : Fr} {h3 : Hp} {jump : Option Code}, exec P sh (rec) F body0 fr1 h2 = some (ex, fr3, h3) →
                  (ex = .normal ∧ jump = none ∨ ex = .ret ∧ jump = some .ret ∨ (∃ id, ex = .exit id ∧ jump = some (.exit id)) ∨ ∃ id, ex = .goto id ∧ jump = some (.goto id)) → roundEnd h3 l jump = some (o, up', h') →
                  ∃ M' μ' w' x v fn tmps asg body, o = .ret v ∧ (Instr.yield r.b vs.toArray).run P w = .ok (.round r.b fn tmps asg body) w ∧ Sim M' μ' h' w' ∧ Grow M μ w M' μ' w' ∧ Rep M' μ' v x ∧
                    Steps P (lone (Frame.round r.b fn tmps asg body .normal) (c :: cs) w) (lone (c.finish x) cs w') := by
                intro ex fr3 h3 jump hex hj he
                obtain ⟨M3, μ3, w3, a3, cs3, s3, g3, f3, t3, arr3⟩ := exA hex (b := b) [] s2 f1'
                have := tail_normal rfl t3
                subst this
                obtain ⟨w4, hend, ho, s4, g4⟩ := roundEnd_ok (P := P) s3 (g3.u _ _ (g1.u _ _ hr)) he
                refine ⟨M3, μ3, w4, .bool jump.isNone, .bool jump.isNone, l1.fn, tm, l1.assign, l1.body, ho, hy, s4, (g1.trans g2).trans (g3.trans g4), .bool _ _, st1.trans ?_⟩
                rcases hj with ⟨rfl, rfl⟩ | ⟨rfl, rfl⟩ | ⟨id, rfl, rfl⟩ | ⟨id, rfl, rfl⟩
                · exact Steps.trans arr3 (.one (stepR_round_end rfl rfl hend))
                · obtain ⟨k1, arr3⟩ := arr3
                  exact Steps.trans arr3 (.one (stepR_round_ret rfl rfl hend))
                · obtain ⟨k1, hk, arr3⟩ := arr3
                  exact Steps.trans arr3 (.one (stepR_round_exit rfl rfl (by rw [hk]; rfl) hend))
                · obtain ⟨k1, hk, arr3⟩ := arr3
                  exact Steps.trans arr3 (.one (stepR_round_goto rfl rfl (by rw [hk]; rfl) hend))
              split at e
              · rename_i fr3 h3 hex; exact fin hex (.inl ⟨rfl, rfl⟩) e
              · rename_i fr3 h3 hex; exact fin hex (.inr (.inl ⟨rfl, rfl⟩)) e
              · rename_i id fr3 h3 hex; exact fin hex (.inr (.inr (.inl ⟨id, rfl, rfl⟩))) e
              · rename_i id fr3 h3 hex; exact fin hex (.inr (.inr (.inr ⟨id, rfl, rfl⟩))) e
              · cases e
            · cases e
          · cases e
        · cases e
      · cases e
    · cases e

structure Kn where
  f : FuncId
  args : List PV
  q : PV
  h : Hp
def eqbl (e : PV → PV → Bool) : List PV → List PV → Bool
  | [], [] => true
  | a :: l, b :: m => e a b && eqbl e l m
  | _, _ => false
theorem eqbl_ok {e : PV → PV → Bool} (he : ∀ a b, e a b = true → a = b) : ∀ {l m : List PV}, eqbl e l m = true → l = m
  | [], [], _ => rfl
  | a :: l, b :: m, h => by
    simp only [eqbl, Bool.and_eq_true] at h
    rw [he _ _ h.1, eqbl_ok he h.2]
  | [], _ :: _, h => by simp [eqbl] at h
  | _ :: _, [], h => by simp [eqbl] at h
def eqby : List UInt8 → List UInt8 → Bool
  | [], [] => true
  | a :: l, b :: m => Nat.beq a.toNat b.toNat && eqby l m
  | _, _ => false
theorem eqby_ok : ∀ {l m : List UInt8}, eqby l m = true → l = m
  | [], [], _ => rfl
  | a :: l, b :: m, h => by
    simp only [eqby, Bool.and_eq_true] at h
    rw [UInt8.toNat_inj.1 (Nat.eq_of_beq_eq_true h.1), eqby_ok h.2]
  | [], _ :: _, h => by simp [eqby] at h
  | _ :: _, [], h => by simp [eqby] at h
/-- the same plain value, as far as this looks -/
def eqb : Nat → PV → PV → Bool
  | 0, _, _ => false
  | n + 1, a, b => match a with
    | .bool x => (match b with
      | .bool y => x == y
      | _ => false)
    | .int k x => (match b with
      | .int k' y => k == k' && x == y
      | _ => false)
    | .str x => (match b with
      | .str y => eqby x y
      | _ => false)
    | .nilp => (match b with
      | .nilp => true
      | _ => false)
    | .nils => (match b with
      | .nils => true
      | _ => false)
    | .nilm => (match b with
      | .nilm => true
      | _ => false)
    | .nilf => (match b with
      | .nilf => true
      | _ => false)
    | .nili => (match b with
      | .nili => true
      | _ => false)
    | .agg x => (match b with
      | .agg y => eqbl (eqb n) x y
      | _ => false)
    | .tup x => (match b with
      | .tup y => eqbl (eqb n) x y
      | _ => false)
    | .lst f x => (match b with
      | .lst g y => f == g && eqbl (eqb n) x y
      | _ => false)
    | .ifc t x => (match b with
      | .ifc u y => Nat.beq t u && eqb n x y
      | _ => false)
    | .own i x y => (match b with
      | .own j u v => Nat.beq i j && (Nat.beq x u && Nat.beq y v)
      | _ => false)
    | _ => false
theorem eqb_ok : ∀ (n : Nat) (a b : PV), eqb n a b = true → a = b
  | 0, _, _, h => by simp [eqb] at h
  | n + 1, a, b, h => by
    have ih : ∀ {l m : List PV}, eqbl (eqb n) l m = true → l = m := fun h => eqbl_ok (eqb_ok n) h
    cases a <;> cases b <;> simp only [eqb, Bool.and_eq_true, beq_iff_eq, reduceCtorEq] at h <;> first
      | rfl
      | (rw [h])
      | (rw [h.1, h.2])
      | (rw [eqby_ok h])
      | (rw [ih h])
      | (rw [h.1, ih h.2])
      | (rw [Nat.eq_of_beq_eq_true h.1, eqb_ok n _ _ h.2])
      | (rw [Nat.eq_of_beq_eq_true h.1, Nat.eq_of_beq_eq_true h.2.1, Nat.eq_of_beq_eq_true h.2.2])
/-- heaps of at most one row -/
def eqh (a b : Hp) : Bool := Nat.beq a.nx b.nx && match a.m with
  | .lf => (match b.m with
    | .lf => true
    | _ => false)
  | .nd .lf (some (.row es ex fz)) .lf => (match b.m with
    | .nd .lf (some (.row es' ex' fz')) .lf => eqbl (eqb 60) es es' && (ex == ex' && fz == fz')
    | _ => false)
  | _ => false
theorem eqh_ok {a b : Hp} (h : eqh a b = true) : a = b := by
  unfold eqh at h
  rw [Bool.and_eq_true] at h
  obtain ⟨h1, h2⟩ := h
  have h1 := Nat.eq_of_beq_eq_true h1
  obtain ⟨m, x⟩ := a
  obtain ⟨m', x'⟩ := b
  simp only at h1 h2
  subst h1
  split at h2
  · split at h2
    · rfl
    · cases h2
  · split at h2
    · simp only [Bool.and_eq_true, beq_iff_eq] at h2
      rw [eqbl_ok (eqb_ok 60) h2.1, h2.2.1, h2.2.2]
    · cases h2
  · cases h2
def look : List Kn → FuncId → List PV → Option (PV × Hp)
  | [], _, _ => none
  | e :: l, f, as => bif Nat.beq e.f f && eqbl (eqb 60) e.args as then some (e.q, e.h) else look l f as
def memo (L : List Kn) (rec : Rec) : Rec := fun tg up args h => match tg with
  | .fn f => match up with
    | none => match h.m with
      | .lf => match look L f args with
        | some (q, h1) => some (.ret q, none, h1)
        | none => rec (.fn f) none args h
      | .nd _ _ _ => rec (.fn f) none args h
    | some u => rec (.fn f) (some u) args h
  | .yl l => rec (.yl l) up args h
def doM (P : Program) (sh : FuncId → Bool) (F : Nat) (L : List Kn) : Nat → Rec
  | 0 => fun _ _ _ _ => none
  | n + 1 => memo L (doS P sh F (doM P sh F L n))
/-- what a call that is not answered from the list comes to -/
def ans (P : Program) (sh : FuncId → Bool) (F : Nat) (L : List Kn) (n : Nat) (f : FuncId) (args : List PV) : Option (PV × Hp) :=
  match doS P sh F (doM P sh F L n) (.fn f) none args { m := .lf, nx := 0 } with
  | some (.ret r, _, h') => handBack 0 [] { m := .lf, nx := 0 } h' r
  | _ => none
def ansIs (P : Program) (sh : FuncId → Bool) (F : Nat) (L : List Kn) (n : Nat) (k : Kn) : Bool := match ans P sh F L n k.f k.args with
  | some (q, h) => eqb 60 q k.q && eqh h k.h
  | none => false
theorem ansIs_ok {P : Program} {sh : FuncId → Bool} {F : Nat} {L : List Kn} {n : Nat} {k : Kn} (e : ansIs P sh F L n k = true) : ans P sh F L n k.f k.args = some (k.q, k.h) := by
  unfold ansIs at e
  split at e
  · rename_i q h hq
    rw [Bool.and_eq_true] at e
    rw [hq, eqb_ok 60 _ _ e.1, eqh_ok e.2]
  · cases e
def KnOK (P : Program) (L : List Kn) : Prop := ∀ e ∈ L, ∃ rec, RecOK P rec ∧ ∃ r up h', rec (.fn e.f) none e.args { m := .lf, nx := 0 } = some (.ret r, up, h') ∧ handBack 0 [] { m := .lf, nx := 0 } h' r = some (e.q, e.h)
theorem look_ok : ∀ {L : List Kn} {f : FuncId} {as : List PV} {q : PV} {h1 : Hp}, look L f as = some (q, h1) → ∃ e ∈ L, e.f = f ∧ e.args = as ∧ e.q = q ∧ e.h = h1
  | [], _, _, _, _, h => by cases h
  | e :: l, f, as, q, h1, h => by
    unfold look at h
    cases hc : Nat.beq e.f f && eqbl (eqb 60) e.args as with
    | true =>
      rw [hc] at h
      simp only [cond_true, Option.some.injEq, Prod.mk.injEq] at h
      rw [Bool.and_eq_true] at hc
      exact ⟨e, List.mem_cons_self .., Nat.eq_of_beq_eq_true hc.1, eqbl_ok (eqb_ok 60) hc.2, h.1, h.2⟩
    | false =>
      rw [hc] at h
      obtain ⟨e', h1, h2⟩ := look_ok h
      exact ⟨e', List.mem_cons_of_mem _ h1, h2⟩
theorem frz_nil (M : Mem) (h : Hp) (μ : Mu) (w : World) : frz M h μ w [] = M := by
  funext a
  unfold frz inFrz
  cases M a <;> rfl
theorem memo_ok {L : List Kn} (K : KnOK P L) {rec : Rec} (R : RecOK P rec) : RecOK P (memo L rec) := by
  refine ⟨?_, ?_, ?_⟩
  · intro f args h o up' h' e M μ w vs s ha cs
    simp only [memo] at e
    split at e
    · rename_i hm
      split at e
      · rename_i q h1 hl
        cases e
        obtain ⟨e, he, rfl, rfl, rfl, rfl⟩ := look_ok hl
        obtain ⟨rec', R', r, up, h2, k1, k2⟩ := K e he
        have hg : ∀ k, h.get k = none := fun k => by simp only [Hp.get, hm]; rfl
        have s0 : Sim M μ { m := .lf, nx := 0 } w := s.nx fun k => by rw [hg]; rfl
        have hμ : μ = mu0 := by
          funext id
          cases hi : μ id with
          | none => rfl
          | some r => exact absurd (hg id) (s.use id r hi).1
        subst hμ
        obtain ⟨M2, μ2, w2, fr, s2, g2, st, hfn, x, hx, hgo⟩ := R'.nrm k1 s0 ha cs
        obtain ⟨M3, μ3, s3, g3, hx3⟩ := handBack_ok (L := []) s0 s2 (by rw [frz_nil]; exact g2) hx k2
        exact ⟨M3, μ3, w2, fr, s3, g3, st, hfn, x, hx3, hgo⟩
      · exact R.nrm e s ha cs
    · exact R.nrm e s ha cs
  · intro f u args h o up' h' e
    exact R.dfr e
  · intro l args h o up' h' e
    exact R.yld e
theorem doM_ok {L : List Kn} (K : KnOK P L) (F : Nat) : ∀ n, RecOK P (doM P sh F L n)
  | 0 => none_rec P
  | n + 1 => memo_ok K (doS_ok (fun rec R => drawn_ok (P := P) (rec := rec) R) F (doM_ok K F n))
theorem kn_nil (P : Program) : KnOK P [] := fun e he => by cases he
theorem kn_cons {L : List Kn} (K : KnOK P L) {F n : Nat} {k : Kn} (e : ansIs P sh F L n k = true) : KnOK P (k :: L) := fun k' hk => by
  rcases List.mem_cons.1 hk with rfl | hk
  · have e := ansIs_ok e
    unfold ans at e
    split at e
    · rename_i r u h' hd
      exact ⟨_, doS_ok (fun rec R => drawn_ok (P := P) (rec := rec) R) F (doM_ok K F n), r, u, h', hd, e⟩
    · cases e
  · exact K k' hk
/-- the answer in whole: with a list of known ones -/
theorem kn_call {L : List Kn} (K : KnOK P L) {F n : Nat} {f : FuncId} {v : PV} {h1 : Hp} (e : ans P sh F L n f [] = some (v, h1)) (hv : flat v = true) (w : World) :
    Calls P f #[] w fun e w' => (∃ x, e = .returned x ∧ Rep (fun _ => none) mu0 v x) ∧ w.heap.size ≤ w'.heap.size ∧ (∀ b, b < w.heap.size → w'.heap[b]? = w.heap[b]?) ∧ w'.os = w.os ∧ w'.output = w.output ∧ w'.tape = w.tape ∧ ∀ (b : Nat) (arr : Array Value) (ty : TypeId) (f : Nat × Nat), w'.heap[b]? = some (.cells arr ty f) → f = (0, 0) ∨ ∃ arr0, w.heap[b]? = some (.cells arr0 ty f) := by
  intro cs
  unfold ans at e
  split at e
  · rename_i r u h' hd
    have R := doS_ok (sh := sh) (fun rec R => drawn_ok (P := P) (rec := rec) R) F (doM_ok (sh := sh) K F n)
    have s0 : Sim (fun _ => none) mu0 { m := .lf, nx := 0 } w := by
      refine ⟨fun a v h => ?_, fun id b hb => ?_, fun id r hr => ?_, fun id id' r r' b b' hr => ?_, fun id r b a v hb => ?_⟩
      · cases h
      · rw [Hp.get_lf] at hb; cases hb
      · simp [mu0] at hr
      · simp [mu0] at hr
      · rw [Hp.get_lf] at hb; cases hb
    obtain ⟨M', μ', w', fr, s1, g1, st, hfn, x, hx, hl⟩ := R.nrm hd s0 (RepL.nil _ _) cs
    obtain ⟨M3, μ3, s3, g3, hx3⟩ := handBack_ok (L := []) s0 s1 (by rw [frz_nil]; exact g1) hx e
    exact ⟨.returned x, w', fr, ⟨⟨x, rfl, flat_rep hv _ _ hx3⟩, g1.size, g1.keeps, g1.os, g1.output, g1.tape, g1.nf⟩, st, hfn, hl⟩
  · cases e
open Go.RowKit in
theorem kn_grown {L : List Kn} (K : KnOK P L) {F n : Nat} {f : FuncId} (e : ansIs P sh F L n ⟨f, [], .bool true, ⟨.lf, 0⟩⟩ = true) (w : World) : Calls P f #[] w fun e w' => e = .returned (.bool true) ∧ Grown w w' := by
  intro cs
  obtain ⟨e', w', fr, ⟨⟨x, he, hr⟩, hsz, hk, hos, hout, _, hnf⟩, h⟩ := kn_call K (ansIs_ok e) rfl w cs
  have he : e' = .returned (.bool true) := by rw [he]; cases hr; rfl
  refine ⟨e', w', fr, ⟨he, ⟨hos, hout, fun i hi => ?_⟩, fun a => ?_, hsz⟩, h⟩
  · rw [hk i hi]
    cases hx : w.heap[i]? with
    | none => trivial
    | some o => cases o <;> first | exact ⟨rfl, rfl, rfl, fun _ _ => rfl⟩ | exact .inr ⟨rfl, rfl⟩ | rfl
  · by_cases hlt : a.block < w.heap.size
    · simp only [World.frozen?, hk _ hlt]
    · have hn : w.heap[a.block]? = none := Array.getElem?_eq_none (by omega)
      simp only [World.frozen?, hn]
      split
      · rename_i arr ty lo hi hc
        rcases hnf _ _ _ _ hc with h0 | ⟨arr0, h0⟩
        · cases h0; simp
        · rw [hn] at h0; cases h0
      · rfl
end
end Go.Proofs.YtopoaknleakdcaaGreat.Pi
namespace Go.Proofs.YtopoaknleakdcaaGreat.Pi
/-! More to burn changes no answer. -/
def RecLe (r r' : Rec) : Prop := ∀ tg up args h x, r tg up args h = some x → r' tg up args h = some x
section
variable {P : Program} {sh : FuncId → Bool} {rec rec' : Rec}
theorem doCall_le (L : RecLe rec rec') {id : Nat} {f : FuncId} {args : List PV} {h : Hp} {x : Out × Hp} (e : doCall sh rec id f args h = some x) : doCall sh rec' id f args h = some x := by
  unfold doCall at e ⊢
  cases hs : sh f with
  | true =>
    simp only [hs, cond_true] at e ⊢
    cases hr : rec (.fn f) none args h with
    | none => rw [hr] at e; cases e
    | some y => rw [hr] at e; rw [L _ _ _ _ _ hr]; exact e
  | false =>
    simp only [hs, cond_false] at e ⊢
    cases hp : purl h args with
    | none => rw [hp] at e; cases e
    | some a =>
      rw [hp] at e
      simp only at e ⊢
      cases hr : rec (.fn f) none a.1 { m := .lf, nx := 0 } with
      | none => rw [hr] at e; cases e
      | some y => rw [hr] at e; rw [L _ _ _ _ _ hr]; exact e
theorem runOps_le (L : RecLe rec rec') {base : Nat} {ops : List Oper} : ∀ {l : List (Nat × Oper)} {fr : Fr} {h : Hp} {x : Ex × Fr × Hp}, runOps P sh rec base ops l fr h = some x → runOps P sh rec' base ops l fr h = some x
  | [], fr, h, x, e => e
  | (i, o) :: r, fr, h, x, e => by
    unfold runOps at e ⊢
    have put : ∀ {fr : Fr} {dst : Option Nat} {v : PV} {h : Hp}, (match fr.put dst v with
        | some fr => runOps P sh rec base ops r fr h
        | none => none) = some x → (match fr.put dst v with
        | some fr => runOps P sh rec' base ops r fr h
        | none => none) = some x := by
      intro fr dst v h e
      split at e
      · rename_i fr1 hp; exact runOps_le L e
      · cases e
    cases hw : wantedP ops fr.t o.guard with
    | false => simp only [hw, cond_false] at e ⊢; exact put (h := h) e
    | true =>
      simp only [hw, cond_true] at e ⊢
      cases he : evalOp P fr.t h (base + i) o with
      | none => rw [he] at e; cases e
      | some y =>
        rw [he] at e
        cases y with
        | val v h1 => exact put (h := h1) e
        | skip h1 => exact put (h := h1) e
        | dfr d =>
          simp only at e ⊢
          cases hro : fr.ro with
          | none => rw [hro] at e; exact put e
          | some _ => rw [hro] at e; cases e
        | call f args =>
          simp only at e ⊢
          cases hd : doCall sh rec (base + i) f args h with
          | none => rw [hd] at e; cases e
          | some z =>
            rw [hd] at e
            rw [doCall_le L hd]
            obtain ⟨o', h'⟩ := z
            cases o' with
            | ret v => exact put (h := h') e
            | pan ch =>
              cases ch with
              | nil => cases e
              | cons a l =>
                obtain ⟨v, rc⟩ := a
                cases l <;> cases rc <;> first | exact e | cases e
        | yield l args =>
          simp only at e ⊢
          cases hr : rec (.yl l) none args h with
          | none => rw [hr] at e; cases e
          | some z =>
            rw [hr] at e
            rw [L _ _ _ _ _ hr]
            obtain ⟨o', u', h'⟩ := z
            cases o' with
            | ret v => exact put e
            | pan ch => exact e
        | pan v => exact e
        | rcv =>
          simp only at e ⊢
          cases hro : fr.ro with
          | some _ => rw [hro] at e; cases e
          | none =>
            rw [hro] at e
            simp only at e ⊢
            cases hu : fr.up with
            | none => rw [hu] at e; exact put (h := h) e
            | some u =>
              rw [hu] at e
              cases u with
              | ret => exact put (h := h) e
              | pan ch =>
                cases ch with
                | nil => exact put (h := h) e
                | cons a older =>
                  obtain ⟨v, rc⟩ := a
                  cases rc <;> exact put (h := h) e
theorem drawnOp_le (L : RecLe rec rec') {t : T PV} {h : Hp} {id : Nat} {o : Oper} {x : PV × Hp × List Nat × List Nat} (e : drawnOp P rec t h id o = some x) : drawnOp P rec' t h id o = some x := by
  unfold drawnOp at e ⊢
  dsimp only at e ⊢
  cases hc : !drawable o.op || !Nat.blt id (id + 1) with
  | true => rw [hc] at e; cases e
  | false =>
    rw [hc] at e
    simp only [cond_false] at e ⊢
    cases he : evalOp P t (h.cut (id :: foot t h o.op)) id o with
    | none => rw [he] at e; cases e
    | some y =>
      rw [he] at e
      cases y with
      | call f args =>
        simp only at e ⊢
        cases hp : purl h args with
        | none => rw [hp] at e; cases e
        | some a =>
          rw [hp] at e
          simp only at e ⊢
          cases hd : doCall (fun _ => false) rec id f args (h.cut (id :: a.2)) with
          | none => rw [hd] at e; cases e
          | some z => rw [hd] at e; rw [doCall_le L hd]; exact e
      | _ => exact e
theorem drawnGo_le (L : RecLe rec rec') {base nt : Nat} {ops : List Oper} : ∀ {l : List Oper} {i : Nat} {ms : List Mk} {past : List (Nat × List Nat × List Nat)} {t : T PV} {h : Hp} {x : T PV × Hp}, drawnGo P rec base nt ops i l ms past t h = some x → drawnGo P rec' base nt ops i l ms past t h = some x
  | [], i, ms, past, t, h, x, e => by unfold drawnGo at e ⊢; exact e
  | o :: l, i, [], past, t, h, x, e => by unfold drawnGo at e; cases e
  | o :: l, i, m :: ms, past, t, h, x, e => by
    unfold drawnGo at e ⊢
    cases hw : wantedP ops t o.guard with
    | true =>
      simp only [hw, cond_true] at e ⊢
      cases hd : drawnOp P rec t h (base + i) o with
      | none => rw [hd] at e; cases e
      | some z =>
        rw [hd] at e
        rw [drawnOp_le L hd]
        obtain ⟨v, h1, rd, wr⟩ := z
        simp only at e ⊢
        cases hh : heapOk m.bef rd wr past with
        | false => rw [hh] at e; cases e
        | true =>
          simp only [hh, cond_true] at e ⊢
          cases hdst : o.dst with
          | none => rw [hdst] at e; exact drawnGo_le L e
          | some d =>
            rw [hdst] at e
            simp only at e ⊢
            cases hb : Nat.blt d nt with
            | false => rw [hb] at e; cases e
            | true => rw [hb] at e; exact drawnGo_le L e
    | false =>
      simp only [hw, cond_false] at e ⊢
      cases hdst : o.dst with
      | none => rw [hdst] at e; exact drawnGo_le L e
      | some d =>
        rw [hdst] at e
        simp only at e ⊢
        cases hb : Nat.blt d nt with
        | false => rw [hb] at e; cases e
        | true => rw [hb] at e; exact drawnGo_le L e
theorem drawn_le (L : RecLe rec rec') {base : Nat} {ops : List Oper} {fr : Fr} {h : Hp} {x : Fr × Hp} (e : drawn P rec base ops fr h = some x) : drawn P rec' base ops fr h = some x := by
  unfold drawn at e ⊢
  split at e
  · rename_i ms hm
    cases hd : drawnGo P rec base fr.nt ops 0 ops ms [] fr.t h with
    | none => rw [hd] at e; cases e
    | some z => rw [hd] at e; rw [drawnGo_le L hd]; exact e
  · cases e
theorem exec_le (L : RecLe rec rec') : ∀ {n n' : Nat} {c : Code} {fr : Fr} {h : Hp} {x : Ex × Fr × Hp}, n ≤ n' → exec P sh rec n c fr h = some x → exec P sh rec' n' c fr h = some x
  | 0, n', c, fr, h, x, hn, e => by unfold exec at e; cases e
  | n + 1, n', c, fr, h, x, hn, e => by
    obtain ⟨m, rfl⟩ : ∃ m, n' = m + 1 := ⟨n' - 1, by omega⟩
    have hn : n ≤ m := by omega
    unfold exec at e ⊢
    cases c with
    | skip => exact e
    | label _ => exact e
    | seq a b =>
      simp only at e ⊢
      cases hx : exec P sh rec n a fr h with
      | none => rw [hx] at e; cases e
      | some y =>
        rw [hx] at e
        rw [exec_le L hn hx]
        obtain ⟨ex, fr1, h1⟩ := y
        cases ex <;> first | exact exec_le L hn e | exact e
    | cond c a b =>
      simp only at e ⊢
      cases hc : evs fr.t c with
      | none => rw [hc] at e; cases e
      | some v =>
        rw [hc] at e
        cases v with
        | bool b => cases b <;> exact exec_le L hn e
        | _ => cases e
    | block id b =>
      simp only at e ⊢
      cases hx : exec P sh rec n b fr h with
      | none => rw [hx] at e; cases e
      | some y => rw [hx] at e; rw [exec_le L hn hx]; exact e
    | loop b =>
      simp only at e ⊢
      cases hx : exec P sh rec n b fr h with
      | none => rw [hx] at e; cases e
      | some y =>
        rw [hx] at e
        rw [exec_le L hn hx]
        obtain ⟨ex, fr1, h1⟩ := y
        cases ex <;> first | exact exec_le L hn e | exact e
    | scope b =>
      simp only at e ⊢
      cases hx : exec P sh rec n b fr h with
      | none => rw [hx] at e; cases e
      | some y => rw [hx] at e; rw [exec_le L hn hx]; exact e
    | exit _ => exact e
    | goto _ => exact e
    | ret => exact e
    | refuse _ => exact e
    | region id ops draw =>
      cases draw with
      | false => exact runOps_le L e
      | true =>
        simp only [cond_true] at e ⊢
        cases hb : P.follows .mixedOrders || !Region.departs ops with
        | false => rw [hb] at e; cases e
        | true =>
          simp only [hb, cond_true] at e ⊢
          cases hd : drawn P rec h.nx ops.toList fr { h with nx := h.nx + ops.size } with
          | none => rw [hd] at e; cases e
          | some z => rw [hd] at e; rw [drawn_le L hd]; exact e
    | rangeFunc g ps asg body =>
      simp only at e ⊢
      split at e
      · rename_i f a b hg
        try simp only [hg]
        split at e
        · rename_i d mark h1 hm
          try simp only [hm]
          split at e
          · rename_i h2 hnew
            try simp only [hnew]
            split at e
            · rename_i f2 args hinv
              try simp only [hinv]
              cases hr : rec (.fn f2) none args { h2 with nx := h.nx + 1 + 1 } with
              | none => rw [hr] at e; cases e
              | some z => rw [hr] at e; rw [L _ _ _ _ _ hr]; exact e
            · cases e
          · cases e
        · cases e
      · cases e
theorem leave_le (L : RecLe rec rec') {fn : Func} : ∀ {n n' : Nat} {ds : List DF} {u : UM} {t : T PV} {h : Hp} {x : Out × Hp}, n ≤ n' → leave P rec fn n ds u t h = some x → leave P rec' fn n' ds u t h = some x
  | 0, n', ds, u, t, h, x, hn, e => by unfold leave at e; cases e
  | n + 1, n', ds, u, t, h, x, hn, e => by
    obtain ⟨m, rfl⟩ : ∃ m, n' = m + 1 := ⟨n' - 1, by omega⟩
    have hn : n ≤ m := by omega
    unfold leave at e ⊢
    cases ds with
    | nil => exact e
    | cons d ds =>
      cases d with
      | col id =>
        simp only at e ⊢
        split at e
        · rename_i l hg
          try simp only [hg]
          split at e
          · rename_i h1 hs
            try simp only [hs]
            exact leave_le L hn e
          · cases e
        · cases e
      | bi b ats ty args =>
        simp only at e ⊢
        split at e
        · split at e
          · rename_i v h1 hb
            try simp only [hb]
            exact leave_le L hn e
          · cases e
        · cases e
      | call f args =>
        simp only at e ⊢
        split at e
        · rename_i g a b
          split at e
          · rename_i g2 args2 hinv
            try simp only [hinv]
            cases hr : rec (.fn g2) (some u) args2 h with
            | none => rw [hr] at e; cases e
            | some z =>
              rw [hr] at e
              rw [L _ _ _ _ _ hr]
              obtain ⟨o', u', h'⟩ := z
              cases o' with
              | ret v =>
                cases u' with
                | some u' => exact leave_le L hn e
                | none => cases e
              | pan ch => cases e
          · cases e
        · cases e
theorem doN_le {F F' : Nat} (hF : F ≤ F') : ∀ {n n' : Nat}, n ≤ n' → RecLe (doN P sh F n) (doN P sh F' n')
  | 0, n', _ => fun tg up args h x e => by cases e
  | n + 1, n', hn => fun tg up args h x e => by
    obtain ⟨m, rfl⟩ : ∃ m, n' = m + 1 := ⟨n' - 1, by omega⟩
    have L : RecLe (doN P sh F n) (doN P sh F' m) := doN_le hF (by omega)
    unfold doN at e ⊢
    have tail : ∀ {fn : Func} {fr : Fr} {ds : List DF} {u : UM} {h : Hp}, (match leave P (doN P sh F n) fn F ds u fr.t h with
        | some (o, h) => some (o, fr.up, h)
        | none => none) = some x → (match leave P (doN P sh F' m) fn F' ds u fr.t h with
        | some (o, h) => some (o, fr.up, h)
        | none => none) = some x := by
      intro fn fr ds u h e
      cases hl : leave P (doN P sh F n) fn F ds u fr.t h with
      | none => rw [hl] at e; cases e
      | some z => rw [hl] at e; rw [leave_le L hF hl]; exact e
    cases tg with
    | fn f =>
      simp only at e ⊢
      split at e
      · rename_i fn hfn
        try simp only [hfn]
        split at e
        · rename_i c hc
          try simp only [hc]
          cases hb : Nat.ble args.length fn.ntmps && Nat.blt fn.ntmps 1048575 with
          | false => simp only [hb, cond_false] at e; cases e
          | true =>
            simp only [hb, cond_true] at e ⊢
            cases hx : exec P sh (doN P sh F n) F c { t := setArgs 0 args .lf, nt := fn.ntmps, ds := [], up, ro := none } h with
            | none => rw [hx] at e; cases e
            | some y =>
              rw [hx] at e
              rw [exec_le L hF hx]
              obtain ⟨ex, fr1, h1⟩ := y
              cases ex with
              | normal => exact tail e
              | ret => exact tail e
              | panic v => exact tail e
              | _ => cases e
        · cases e
      · cases e
    | yl l =>
      simp only at e ⊢
      split at e
      · rename_i st pd nt t ps asg body0 d hg
        try simp only [hg]
        split at e
        · rename_i t1 ht
          try simp only [ht]
          cases hx : exec P sh (doN P sh F n) F asg { t := t1, nt, ds := [], up := none, ro := some l } h with
          | none => rw [hx] at e; cases e
          | some y =>
            rw [hx] at e
            rw [exec_le L hF hx]
            obtain ⟨ex, fr1, h1⟩ := y
            cases ex with
            | normal =>
              simp only at e ⊢
              split at e
              · rename_i pend nt2 t2 ps2 asg2 body2 d2 hg2
                try simp only [hg2]
                split at e
                · rename_i h3 hs
                  try simp only [hs]
                  cases hx2 : exec P sh (doN P sh F n) F body0 fr1 h3 with
                  | none => rw [hx2] at e; cases e
                  | some y2 => rw [hx2] at e; rw [exec_le L hF hx2]; exact e
                · cases e
              · cases e
            | _ => cases e
        · cases e
      · cases e
end
end Go.Proofs.YtopoaknleakdcaaGreat.Pi
