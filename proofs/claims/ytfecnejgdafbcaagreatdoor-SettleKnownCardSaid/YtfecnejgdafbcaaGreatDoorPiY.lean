/- A part of the evaluator of the model's code and of its soundness, for any program. No condition. -/
import Derived.Test.YtfecnejgdafbcaaGreatDoorPiX
namespace Go.Proofs.YtfecnejgdafbcaaGreatDoor.Pi
set_option linter.all false
variable [Gl]
section
variable {P : Program} {sh : FuncId → Bool} {M : Mem} {μ : Mu} {h : Hp} {w : World}

theorem none_rec (P : Program) : RecOK P (fun _ _ _ _ => none) := by constructor <;> (intros; contradiction)
theorem tail_normal {kd : CallKind} {cs cs' : List Frame} (hk : kd = .normal) (h : Tail kd cs cs') : cs' = cs := by
  rcases h with h | ⟨hd, _⟩
  · exact h
  · rw [hk] at hd; cases hd
/-- the body of a function, and its deferred calls: in a frame of either kind -/
theorem body_ok {rec : Rec} (R : RecOK P rec) (D : DrawnOK P rec) {F : Nat} {f : FuncId} {fn : Func} {c : Code} {up : Option UM} {args : List PV} {h h' : Hp} {o : Out} {up' : Option UM} (hfn : P.funcs[f]? = some fn) (hbody : fn.body = some c)
    (e : (match (bif Nat.ble args.length fn.ntmps && Nat.blt fn.ntmps 1048575 then exec P sh rec F c { t := setArgs 0 args .lf, nt := fn.ntmps, ds := [], up, ro := none } h else none) with
      | some (.normal, fr, h) | some (.ret, fr, h) => (match leave P rec fn F fr.ds .ret fr.t h with
        | some (o, h) => some (o, fr.up, h)
        | none => none)
      | some (.panic e, fr, h) => (match leave P rec fn F fr.ds (.pan [{ v := e, recovered := false }]) fr.t h with
        | some (o, h) => some (o, fr.up, h)
        | none => none)
      | _ => none) = some (o, up', h')) {M : Mem} {μ : Mu} {w : World} {vs : List Value} (s : Sim M μ h w) (ha : RepL M μ args vs) (kd : CallKind) (cs : List Frame) (hup : UpRep M μ kd cs up) :
    ∃ M' μ' w' fr cs', Sim M' μ' h' w' ∧ Grow M μ w M' μ' w' ∧ Steps P (lone (Frame.enter P f vs.toArray kd) cs w) (lone fr cs' w') ∧ Tail kd cs cs' ∧ UpRep M' μ' kd cs' up' ∧ fr.fn = f ∧ fr.kind = kd ∧ OutD P M' μ' fr w' o := by
  let b : Frame := { fn := f, tmps := #[], todo := [], defers := [], mode := .run, kind := kd }
  have henter : Frame.enter P f vs.toArray kd = b.atR { tmps := vs.toArray ++ Array.replicate (fn.ntmps - vs.toArray.size) undef, defers := [] } [.code c] := by
    simp [Frame.enter, Frame.atR, hfn, hbody, b]
  have exA : ∀ {c : Code} {fr fr' : Fr} {h h' : Hp} {ex : Ex}, exec P sh rec F c fr h = some (ex, fr', h') →
      ∀ {M : Mem} {μ : Mu} {w : World} {b : Frame} {a : Act} {cs : List Frame} (k : List Item), Sim M μ h w → FrRep M μ fr b a cs → Ran P M μ w (lone (b.atR a (.code c :: k)) cs w) b k cs ex fr' h' := (exec_ok R D F).1
  have fin : ∀ {ex : Ex} {fr : Fr} {h1 : Hp}, exec P sh rec F c { t := setArgs 0 args .lf, nt := fn.ntmps, ds := [], up, ro := none } h = some (ex, fr, h1) → args.length ≤ fn.ntmps → fn.ntmps < 1048575 →
      ∀ {u : UM}, ((ex = .normal ∨ ex = .ret) ∧ u = .ret ∨ ∃ v, ex = .panic v ∧ u = .pan [{ v, recovered := false }]) → (match leave P rec fn F fr.ds u fr.t h1 with
        | some (o, h) => some (o, fr.up, h)
        | none => none) = some (o, up', h') →
      ∃ M' μ' w' fr cs', Sim M' μ' h' w' ∧ Grow M μ w M' μ' w' ∧ Steps P (lone (Frame.enter P f vs.toArray kd) cs w) (lone fr cs' w') ∧ Tail kd cs cs' ∧ UpRep M' μ' kd cs' up' ∧ fr.fn = f ∧ fr.kind = kd ∧ OutD P M' μ' fr w' o := by
    intro ex fr h1 hex hl1 hl2 u hu e
    have f0 : FrRep M μ { t := setArgs 0 args .lf, nt := fn.ntmps, ds := [], up, ro := none } b { tmps := vs.toArray ++ Array.replicate (fn.ntmps - vs.toArray.size) undef, defers := [] } cs :=
      ⟨enter_tmps ha hl1 hl2, trivial, hup, rfl⟩
    obtain ⟨M1, μ1, w1, a1, cs1, s1, g1, f1, t1, arr⟩ := exA hex (b := b) [] s f0
    rw [← henter] at arr
    split at e
    · rename_i o1 h2 hleave
      cases e
      have out : ∃ frM : Frame, Steps P (lone (Frame.enter P f vs.toArray kd) cs w) (lone frM cs1 w1) ∧ frM.fn = f ∧ frM.kind = kd ∧ frM.defers = a1.defers ∧ frM.tmps = a1.tmps ∧ UMRep M1 μ1 u frM.mode := by
        rcases hu with ⟨rfl | rfl, rfl⟩ | ⟨v, rfl, rfl⟩
        · exact ⟨{ b.atR a1 [] with mode := .returning }, Steps.trans arr (.one (stepR_end rfl)), rfl, rfl, rfl, rfl, rfl⟩
        · obtain ⟨k1, arr⟩ := arr
          exact ⟨{ b.atR a1 (.code .ret :: k1) with mode := .returning }, Steps.trans arr (.one (stepR_ret rfl)), rfl, rfl, rfl, rfl, rfl⟩
        · obtain ⟨todo, x, hx, arr⟩ := arr
          exact ⟨{ b.atR a1 todo with mode := .panicking [{ v := x, recovered := false }] }, arr, rfl, rfl, rfl, rfl, _, rfl, hx, rfl, rfl, trivial⟩
      obtain ⟨frM, st, m1, m2, m3, m4, m5⟩ := out
      obtain ⟨M', μ', w', fr', q1, q2, q3, q4, q5, q6⟩ := leave_ok R F hleave (fr := frM) cs1 s1 m5 (by rw [m3]; exact f1.d) (by rw [m4]; exact f1.t) (by rw [m1]; exact hfn)
      refine ⟨M', μ', w', fr', cs1, q1, g1.trans q2, st.trans q3, t1, ?_, by rw [q4, m1], by rw [q5, m2], q6⟩
      exact (f1.mono q2.m q2.u).u
    · cases e
  cases hcond : (Nat.ble args.length fn.ntmps && Nat.blt fn.ntmps 1048575) with
  | false => rw [hcond] at e; cases e
  | true =>
    rw [hcond] at e
    simp only [cond_true] at e
    simp only [Bool.and_eq_true, Nat.ble_eq, Nat.blt_eq] at hcond
    split at e
    · rename_i fr h1 hex; exact fin hex hcond.1 hcond.2 (.inl ⟨.inl rfl, rfl⟩) e
    · rename_i fr h1 hex; exact fin hex hcond.1 hcond.2 (.inl ⟨.inr rfl, rfl⟩) e
    · rename_i v fr h1 hex; exact fin hex hcond.1 hcond.2 (.inr ⟨v, rfl, rfl⟩) e
    · cases e

theorem roundEnd_ok (s : Sim M μ h w) {l : Nat} {r : Bk} {jump : Option Code} {o : Out} {up' : Option UM} {h' : Hp} (hr : μ l = some r) (e : roundEnd h l jump = some (o, up', h')) :
    ∃ w', (Instr.endRound r.b jump).run P w = .ok (.bool jump.isNone) w' ∧ o = .ret (.bool jump.isNone) ∧ Sim M μ h' w' ∧ Grow M μ w M μ w' := by
  unfold roundEnd at e
  split at e
  · rename_i st pend nt t ps asg body d hb
    split at e
    · rename_i h1 hset
      cases e
      obtain ⟨r', hr', l1, rd, b1, b2, b3, b4, b5, b6, b7, b8, b9, b10⟩ := s.blk l _ hb
      rw [hr] at hr'; cases hr'
      have so := setObj_run (P := P) (o' := .loop { l1 with state := if jump.isNone then .ready else .done, pending := jump }) b1 (by intro a t f hc; cases hc)
      obtain ⟨s1, g1⟩ := s.object (o' := .loop { l1 with state := if jump.isNone then .ready else .done, pending := jump }) hb hr trivial hset b1 (by intro a t f hc; cases hc)
        ⟨_, rd, rfl, by cases jump <;> rfl, (by cases jump; exact (by decide : 0 < 4); exact (by decide : 2 < 4)), rfl, b5, b6, b7, b8, b9, b10⟩
      refine ⟨_, ?_, rfl, s1, g1⟩
      simp only [Instr.endRound, Sem.run_bind, getLoop_run b1, Result.andThen, so, Sem.run_pure]
    · cases e
  · cases e

theorem doS_ok (PO : PrimOK P) (hD : ∀ rec, RecOK P rec → DrawnOK P rec) (F : Nat) {rec : Rec} (R : RecOK P rec) : RecOK P (doS P sh F rec) := by
  have D : DrawnOK P rec := hD _ R
  have exA : ∀ {c : Code} {fr fr' : Fr} {h h' : Hp} {ex : Ex}, exec P sh rec F c fr h = some (ex, fr', h') →
    ∀ {M : Mem} {μ : Mu} {w : World} {b : Frame} {a : Act} {cs : List Frame} (k : List Item), Sim M μ h w → FrRep M μ fr b a cs → Ran P M μ w (lone (b.atR a (.code c :: k)) cs w) b k cs ex fr' h' := (exec_ok R D F).1
  refine ⟨?_, ?_, ?_⟩
  · intro f args h o up' h' e M μ w vs s ha cs
    simp only [doS] at e
    split at e
    · rename_i p hp
      obtain ⟨⟨v, h1⟩, hd, e⟩ := mapOpt e
      cases e
      obtain ⟨M', μ', w', fr, x, q1, q2, q3, q4, q5, q6⟩ := PO f p hp args h v h1 hd M μ w vs s ha cs
      exact ⟨M', μ', w', fr, q1, q2, q3, q4, x, q5, q6⟩
    · split at e
      · rename_i fn hfn
        split at e
        · rename_i c hc
          obtain ⟨M', μ', w', fr, cs', q1, q2, q3, q4, q5, q6, q7, q8⟩ := body_ok R D hfn hc e s ha .normal cs rfl
          have := tail_normal rfl q4
          subst this
          refine ⟨M', μ', w', fr, q1, q2, q3, q6, ?_⟩
          cases o with
          | ret v => obtain ⟨x, hx, h1, h2, h3⟩ := q8; exact ⟨x, hx, h1, h2, q7, h3⟩
          | pan ch => exact q8
        · cases e
      · cases e
  · intro f u args h o up' h' e M μ w vs s ha c cs hu
    simp only [doS] at e
    split at e
    · cases e
    split at e
    · rename_i fn hfn
      split at e
      · rename_i c' hc
        obtain ⟨M', μ', w', fr, cs', q1, q2, q3, q4, q5, q6, q7, q8⟩ := body_ok R D hfn hc e s ha .deferred (c :: cs) ⟨rfl, c, cs, rfl, hu⟩
        cases up' with
        | none => cases q5
        | some u' =>
          obtain ⟨_, c1, tl, rfl, hm⟩ := q5
          rcases q4 with h0 | ⟨_, c2, tl2, m, h1, h2⟩
          · cases h0
            refine ⟨M', μ', w', fr, c.mode, u', q1, q2, q3, rfl, hm, q7, q8⟩
          · cases h1; cases h2
            exact ⟨M', μ', w', fr, m, u', q1, q2, q3, rfl, hm, q7, q8⟩
      · cases e
    · cases e
  · intro l args h o up' h' e M μ w vs r s ha hr c cs
    simp only [doS] at e
    split at e
    · rename_i st pend nt t ps asg body0 d hb
      split at e
      · rename_i t1 hset
        split at e
        · rename_i fr1 h1 hasg
          split at e
          · rename_i pend2 nt2 t2 ps2 asg2 body2 d2 hb2
            split at e
            · rename_i h2 hset2
              obtain ⟨r', hr', l1, rd, b1, b2, b3, b4, b5, b6, b7, b8, b9, b10⟩ := s.blk l _ hb
              rw [hr] at hr'; cases hr'
              obtain ⟨hlen, htm⟩ := setParams_ok hset ha b5
              have hy : (Instr.yield r.b vs.toArray).run P w = .ok (.round r.b l1.fn ((l1.params.zip vs.toArray).foldl (fun tmps (t, a) => tmps.setIfInBounds t a) l1.tmps) l1.assign l1.body) w := by
                have : ¬ (vs.toArray.size ≠ l1.params.size) := by rw [b6]; simp [hlen]
                simp only [Instr.yield, Sem.run_bind, getLoop_run b1, Result.andThen, if_neg this, Sem.run_pure]
              let b : Frame := { fn := l1.fn, tmps := #[], todo := [], defers := [], mode := .run, kind := .normal, roundOf := some r.b }
              have htm2 : TmpsRep M μ t1 nt ((l1.params.zip vs.toArray).foldl (fun tmps (t, a) => tmps.setIfInBounds t a) l1.tmps) := by
                rw [b6]
                simpa using htm
              have hb0 : ∀ tm, Frame.round r.b l1.fn tm l1.assign l1.body .normal = b.atR { tmps := tm, defers := [] } [.code asg, .beginRound, .code body0] := by
                intro tm; simp [Frame.round, Frame.atR, b, b7, b8]
              generalize (l1.params.zip vs.toArray).foldl (fun tmps (t, a) => tmps.setIfInBounds t a) l1.tmps = tm at hy htm2
              have f0 : FrRep M μ { t := t1, nt, ds := [], up := none, ro := some l } b { tmps := tm, defers := [] } (c :: cs) := ⟨htm2, trivial, rfl, r, hr, rfl⟩
              obtain ⟨M1, μ1, w1, a1, cs1, s1, g1, f1, t1', arr⟩ := exA hasg (b := b) [.beginRound, .code body0] s f0
              have := tail_normal rfl t1'
              subst this
              rw [← hb0] at arr
              -- the round begins
              obtain ⟨r2, hr2, l2, rd2, c1, c2, c3, c4, c5, c6, c7, c8, c9, c10⟩ := s1.blk l _ hb2
              rw [g1.u _ _ hr] at hr2; cases hr2
              have so := setObj_run (P := P) (o' := .loop { l2 with state := .busy }) c1 (by intro a t f hc; cases hc)
              obtain ⟨s2, g2⟩ := s1.object (o' := .loop { l2 with state := .busy }) hb2 (g1.u _ _ hr) trivial hset2 c1 (by intro a t f hc; cases hc)
                ⟨_, rd2, rfl, rfl, by decide, c4, c5, c6, c7, c8, c9, c10⟩
              have hbr : (Instr.beginRound r.b).run P w1 = .ok () { w1 with heap := w1.heap.setIfInBounds r.b (.loop { l2 with state := .busy }) } := by
                have : l2.state = .ready := c2
                simp only [Instr.beginRound, Sem.run_bind, getLoop_run c1, Result.andThen, so, this, Sem.run_pure]
              have st1 : Steps P (lone (Frame.round r.b l1.fn tm l1.assign l1.body .normal) (c :: cs) w) (lone (b.atR a1 [.code body0]) (c :: cs) _) := Steps.trans arr (.one (stepR_beginRound rfl hbr))
              have f1' := f1.mono g2.m g2.u
              -- the body
              have fin : ∀ {ex : Ex} {fr3 : Fr} {h3 : Hp} {jump : Option Code}, exec P sh rec F body0 fr1 h2 = some (ex, fr3, h3) →
                  (ex = .normal ∧ jump = none ∨ ex = .ret ∧ jump = some .ret ∨ (∃ id, ex = .exit id ∧ jump = some (.exit id)) ∨ ∃ id, ex = .goto id ∧ jump = some (.goto id)) → roundEnd h3 l jump = some (o, up', h') →
                  ∃ M' μ' w' x v fn tmps asg body, o = .ret v ∧ (Instr.yield r.b vs.toArray).run P w = .ok (.round r.b fn tmps asg body) w ∧ Sim M' μ' h' w' ∧ Grow M μ w M' μ' w' ∧ Rep M' μ' v x ∧
                    Steps P (lone (Frame.round r.b fn tmps asg body .normal) (c :: cs) w) (lone (c.finish x) cs w') := by
                intro ex fr3 h3 jump hex hj he
                obtain ⟨M3, μ3, w3, a3, cs3, s3, g3, f3, t3, arr3⟩ := exA hex (b := b) [] s2 f1'
                have := tail_normal rfl t3
                subst this
                obtain ⟨w4, hend, ho, s4, g4⟩ := roundEnd_ok (P := P) s3 (g3.u _ _ (g1.u _ _ hr)) he
                refine ⟨M3, μ3, w4, .bool jump.isNone, .bool jump.isNone, l1.fn, tm, l1.assign, l1.body, ho, hy, s4, (g1.trans g2).trans (g3.trans g4), .bool _ _, st1.trans ?_⟩
                rcases hj with ⟨rfl, rfl⟩ | ⟨rfl, rfl⟩ | ⟨id, rfl, rfl⟩ | ⟨id, rfl, rfl⟩
                · exact Steps.trans arr3 (.one (stepR_round_end rfl rfl hend))
                · obtain ⟨k1, arr3⟩ := arr3
                  exact Steps.trans arr3 (.one (stepR_round_ret rfl rfl hend))
                · obtain ⟨k1, hk, arr3⟩ := arr3
                  exact Steps.trans arr3 (.one (stepR_round_exit rfl rfl (by rw [hk]; rfl) hend))
                · obtain ⟨k1, hk, arr3⟩ := arr3
                  exact Steps.trans arr3 (.one (stepR_round_goto rfl rfl (by rw [hk]; rfl) hend))
              split at e
              · rename_i fr3 h3 hex; exact fin hex (.inl ⟨rfl, rfl⟩) e
              · rename_i fr3 h3 hex; exact fin hex (.inr (.inl ⟨rfl, rfl⟩)) e
              · rename_i id fr3 h3 hex; exact fin hex (.inr (.inr (.inl ⟨id, rfl, rfl⟩))) e
              · rename_i id fr3 h3 hex; exact fin hex (.inr (.inr (.inr ⟨id, rfl, rfl⟩))) e
              · cases e
            · cases e
          · cases e
        · cases e
      · cases e
    · cases e
theorem doN_ok (PO : PrimOK P) (hD : ∀ rec, RecOK P rec → DrawnOK P rec) (F : Nat) : ∀ n, RecOK P (doN P sh F n)
  | 0 => none_rec P
  | n + 1 => doS_ok PO hD F (doN_ok PO hD F n)
end
end Go.Proofs.YtfecnejgdafbcaaGreatDoor.Pi
