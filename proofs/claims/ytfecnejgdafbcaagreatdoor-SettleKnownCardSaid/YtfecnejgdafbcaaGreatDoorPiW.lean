/- A part of the evaluator of the model's code and of its soundness, for any program. No condition. -/
import Derived.Test.YtfecnejgdafbcaaGreatDoorPiV
namespace Go.Proofs.YtfecnejgdafbcaaGreatDoor.Pi
set_option linter.all false
variable [Gl]
def DrawnOK (P : Program) (rec : Rec) : Prop := ∀ {ops : Array Oper} {base : Nat} {fr fr' : Fr} {h h' : Hp}, drawn P rec base ops.toList fr h = some (fr', h') → (P.follows .mixedOrders || !Region.departs ops) = true →
  ∀ {M : Mem} {μ : Mu} {w : World} {b : Frame} {a : Act} {cs : List Frame} (k : List Item) (t : Nat), Sim M μ h w → FrRep M μ fr b a cs → Ran P M μ w (lone (b.atR a (.inRegion ops (Region.schedule (P.follows .mixedOrders) ops t) :: k)) cs w) b k cs .normal fr' h'
section
variable {P : Program} {sh : FuncId → Bool} {rec : Rec}

theorem idx_fst {α : Type} : ∀ (l : List α) (n : Nat), (idx n l).map (·.1) = (List.range l.length).map (n + ·)
  | [], n => rfl
  | a :: l, n => by
    simp only [idx, List.map_cons, List.length_cons, List.range_succ_eq_map, List.map_map]
    rw [idx_fst l (n + 1)]
    simp only [Nat.add_zero, List.cons.injEq, true_and]
    apply List.map_congr_left
    intro x _
    simp only [Function.comp]
    omega
theorem idx_get {α : Type} : ∀ (l : List α) (n : Nat), ∀ x ∈ idx n l, n ≤ x.1 ∧ l[x.1 - n]? = some x.2
  | [], n, x, hx => by simp [idx] at hx
  | a :: l, n, x, hx => by
    simp only [idx, List.mem_cons] at hx
    rcases hx with rfl | hx
    · simp
    · obtain ⟨h1, h2⟩ := idx_get l (n + 1) x hx
      refine ⟨by omega, ?_⟩
      rw [show x.1 - n = (x.1 - (n + 1)) + 1 by omega]
      simpa using h2

section
variable {M : Mem} {μ : Mu} {h h' : Hp} {w : World} {b : Frame} {a : Act} {cs : List Frame} {k : List Item} {fr fr' : Fr} {ex : Ex} {m : Machine}
theorem Ran.step {m1 : Machine} (hs : step P m = .next m1) (hr : Ran P M μ w m1 b k cs ex fr' h') : Ran P M μ w m b k cs ex fr' h' :=
  let ⟨M', μ', w', a', cs', q1, q2, q3, q4, q5⟩ := hr
  ⟨M', μ', w', a', cs', q1, q2, q3, q4, .of_steps (.one hs) q5⟩
/-- code that ended normally, then more -/
theorem Ran.then {fr1 : Fr} {h1 : Hp} {k1 : List Item} (hr : Ran P M μ w m b k1 cs .normal fr1 h1)
    (hn : ∀ {M1 μ1 w1 a1 cs1}, Sim M1 μ1 h1 w1 → FrRep M1 μ1 fr1 b a1 cs1 → Ran P M1 μ1 w1 (lone (b.atR a1 k1) cs1 w1) b k cs1 ex fr' h') : Ran P M μ w m b k cs ex fr' h' := by
  obtain ⟨M1, μ1, w1, a1, cs1, s1, g1, f1, t1, st⟩ := hr
  obtain ⟨M', μ', w', a', cs', q1, q2, q3, q4, q5⟩ := hn s1 f1
  exact ⟨M', μ', w', a', cs', q1, g1.trans q2, q3, t1.trans q4, .of_steps st q5⟩
/-- code that was left by a jump goes through what stood behind it -/
theorem Ran.pass {x : Item} (hx : x.plain = true) (hne : ex ≠ .normal) (hr : Ran P M μ w m b (x :: k) cs ex fr' h') : Ran P M μ w m b k cs ex fr' h' := by
  obtain ⟨M', μ', w', a', cs', q1, q2, q3, q4, q5⟩ := hr
  refine ⟨M', μ', w', a', cs', q1, q2, q3, q4, ?_⟩
  cases ex with
  | normal => exact absurd rfl hne
  | exit id => obtain ⟨k1, h1, h2⟩ := q5; exact ⟨k1, by rw [h1]; cases x <;> simp_all [exitTo, Item.plain], h2⟩
  | goto id => obtain ⟨k1, h1, h2⟩ := q5; exact ⟨k1, by rw [h1]; cases x <;> simp_all [gotoIn, Item.plain], h2⟩
  | ret => exact q5
  | panic v => exact q5
end

theorem getLoop_run {r : Nat} {l : Loop} {w : World} (hb : w.heap[r]? = some (.loop l)) : (Instr.getLoop r).run P w = .ok l w := by
  simp [Instr.getLoop, getObj, Sem.run, hb]
theorem exec_ok (R : RecOK P rec) (D : DrawnOK P rec) : ∀ (n : Nat),
    (∀ {c : Code} {fr fr' : Fr} {h h' : Hp} {ex : Ex}, exec P sh rec n c fr h = some (ex, fr', h') →
      ∀ {M : Mem} {μ : Mu} {w : World} {b : Frame} {a : Act} {cs : List Frame} (k : List Item), Sim M μ h w → FrRep M μ fr b a cs → Ran P M μ w (lone (b.atR a (.code c :: k)) cs w) b k cs ex fr' h') ∧
    (∀ {c : Code} {fr fr' : Fr} {h h' : Hp} {ex : Ex}, exec P sh rec n (.loop c) fr h = some (ex, fr', h') →
      ∀ {M : Mem} {μ : Mu} {w : World} {b : Frame} {a : Act} {cs : List Frame} (k : List Item), Sim M μ h w → FrRep M μ fr b a cs → Ran P M μ w (lone (b.atR a (.inLoop c :: k)) cs w) b k cs ex fr' h')
  | 0 => ⟨fun e => by simp [exec] at e, fun e => by simp [exec] at e⟩
  | n + 1 => by
    obtain ⟨ihA, ihB⟩ := exec_ok R D n
    have loopRun : ∀ {c : Code} {fr fr' : Fr} {h h' : Hp} {ex : Ex}, exec P sh rec (n + 1) (.loop c) fr h = some (ex, fr', h') →
        ∀ {M : Mem} {μ : Mu} {w : World} {b : Frame} {a : Act} {cs : List Frame} (k : List Item), Sim M μ h w → FrRep M μ fr b a cs → Ran P M μ w (lone (b.atR a (.code c :: .inLoop c :: k)) cs w) b k cs ex fr' h' := by
      intro c fr fr' h h' ex e M μ w b a cs k s f
      simp only [exec] at e
      cases hc : exec P sh rec n c fr h with
      | none => rw [hc] at e; cases e
      | some r =>
        obtain ⟨ex1, fr1, h1⟩ := r
        rw [hc] at e
        have r1 := ihA hc (.inLoop c :: k) s f
        cases ex1 with
        | normal => exact r1.then fun s1 f1 => ihB e k s1 f1
        | exit id => cases e; exact r1.pass rfl (by intro h; cases h)
        | goto id => cases e; exact r1.pass rfl (by intro h; cases h)
        | ret => cases e; exact r1.pass rfl (by intro h; cases h)
        | panic v => cases e; exact r1.pass rfl (by intro h; cases h)
    refine ⟨?_, fun e M μ w b a cs k s f => (loopRun e k s f).step stepR_inLoop⟩
    intro c fr fr' h h' ex e M μ w b a cs k s f
    cases c with
    | skip => simp only [exec] at e; cases e; exact ⟨M, μ, w, a, cs, s, .refl _ _ _, f, .refl _, .one stepR_skip⟩
    | label l => simp only [exec] at e; cases e; exact ⟨M, μ, w, a, cs, s, .refl _ _ _, f, .refl _, .one stepR_label⟩
    | refuse _ => simp [exec] at e
    | exit id => simp only [exec] at e; cases e; exact ⟨M, μ, w, a, cs, s, .refl _ _ _, f, .refl _, k, rfl, .refl _ _⟩
    | goto id => simp only [exec] at e; cases e; exact ⟨M, μ, w, a, cs, s, .refl _ _ _, f, .refl _, k, rfl, .refl _ _⟩
    | ret => simp only [exec] at e; cases e; exact ⟨M, μ, w, a, cs, s, .refl _ _ _, f, .refl _, k, .refl _ _⟩
    | seq x y =>
      simp only [exec] at e
      refine Ran.step stepR_seq ?_
      cases hc : exec P sh rec n x fr h with
      | none => rw [hc] at e; cases e
      | some r =>
        obtain ⟨ex1, fr1, h1⟩ := r
        rw [hc] at e
        have r1 := ihA hc (.code y :: k) s f
        cases ex1 with
        | normal => exact r1.then fun s1 f1 => ihA e k s1 f1
        | exit id => cases e; exact r1.pass rfl (by intro h; cases h)
        | goto id => cases e; exact r1.pass rfl (by intro h; cases h)
        | ret => cases e; exact r1.pass rfl (by intro h; cases h)
        | panic v => cases e; exact r1.pass rfl (by intro h; cases h)
    | cond x y z =>
      simp only [exec] at e
      split at e
      · rename_i hx
        have hv := evs_ok s.glb f.t hx
        generalize hev : a.eval x = v at hv
        cases hv
        exact (ihA e k s f).step (by rw [stepR_cond hev]; rfl)
      · rename_i hx
        have hv := evs_ok s.glb f.t hx
        generalize hev : a.eval x = v at hv
        cases hv
        exact (ihA e k s f).step (by rw [stepR_cond hev]; rfl)
      · cases e
    | block id x =>
      simp only [exec] at e
      refine Ran.step stepR_block ?_
      cases hc : exec P sh rec n x fr h with
      | none => rw [hc] at e; cases e
      | some r =>
        obtain ⟨ex1, fr1, h1⟩ := r
        rw [hc] at e
        have r1 := ihA hc (.inBlock id :: k) s f
        cases ex1 with
        | normal => cases e; exact r1.then fun s1 f1 => ⟨_, _, _, _, _, s1, .refl _ _ _, f1, .refl _, .one stepR_inBlock⟩
        | exit j =>
          obtain ⟨M', μ', w', a', cs', q1, q2, q3, q4, k1, q5, q6⟩ := r1
          simp only at e
          cases hj : Nat.beq j id with
          | true =>
            simp only [hj, cond_true] at e
            cases e
            have := Nat.eq_of_beq_eq_true hj
            subst this
            exact ⟨M', μ', w', a', cs', q1, q2, q3, q4, q6.trans (.one (stepR_exit (by rw [q5]; simp [exitTo])))⟩
          | false =>
            simp only [hj, cond_false] at e
            cases e
            refine ⟨M', μ', w', a', cs', q1, q2, q3, q4, k1, ?_, q6⟩
            rw [q5]
            have : (id == j) = false := by
              cases hij : id == j with
              | false => rfl
              | true =>
                have : id = j := by simpa using hij
                subst this
                simp at hj
            simp [exitTo, this]
        | goto j =>
          cases e
          obtain ⟨M', μ', w', a', cs', q1, q2, q3, q4, k1, q5, q6⟩ := r1
          exact ⟨M', μ', w', a', cs', q1, q2, q3, q4, k1, by rw [q5]; simp [gotoIn], q6⟩
        | ret => cases e; exact r1
        | panic v => cases e; exact r1
    | loop x => exact (loopRun e k s f).step stepR_loop
    | scope x =>
      simp only [exec] at e
      refine Ran.step stepP_scope ?_
      cases hc : exec P sh rec n x fr h with
      | none => rw [hc] at e; cases e
      | some r =>
        obtain ⟨ex1, fr1, h1⟩ := r
        rw [hc] at e
        have r1 := ihA hc (.inScope x :: k) s f
        cases ex1 with
        | normal => cases e; exact r1.then fun s1 f1 => ⟨_, _, _, _, _, s1, .refl _ _ _, f1, .refl _, .one stepP_inScope⟩
        | exit j =>
          cases e
          obtain ⟨M', μ', w', a', cs', q1, q2, q3, q4, k1, q5, q6⟩ := r1
          exact ⟨M', μ', w', a', cs', q1, q2, q3, q4, k1, by rw [q5]; simp [exitTo], q6⟩
        | goto j => cases e
        | ret => cases e; exact r1
        | panic v => cases e; exact r1
    | region id ops draw =>
      simp only [exec] at e
      have s0 : Sim M μ { h with nx := h.nx + ops.size } w := s.nx fun _ => rfl
      cases draw with
      | false =>
        simp only [cond_false] at e
        refine Ran.step stepR_region ?_
        have := runOps_ok R _ e (fun x hx => by
          obtain ⟨h1, h2⟩ := idx_get _ _ x hx
          simpa using h2) k s0 f
        have hidx : (idx 0 ops.toList).map (·.1) = List.range ops.size := by rw [idx_fst]; simp
        rwa [hidx] at this
      | true =>
        simp only [cond_true] at e
        replace e := bifT e; obtain ⟨hm, e⟩ := e
        split at e
        · rename_i fr1 h1 hd
          cases e
          refine Ran.step stepR_region_draw ?_
          have s1 : Sim M μ { h with nx := h.nx + ops.size } { w with drawn := w.drawn + 1 } := s0.drawn rfl
          obtain ⟨M', μ', w', a', cs', q1, q2, q3, q4, q5⟩ := D hd hm k (w.tape w.drawn (.order b.fn id)) s1 f
          exact ⟨M', μ', w', a', cs', q1, (Grow.drawn (w := w) (w' := { w with drawn := w.drawn + 1 }) rfl rfl rfl rfl).trans q2, q3, q4, q5⟩
        · cases e
    | rangeFunc g ps asg body =>
      simp only [exec] at e
      split at e
      · rename_i fn va0 vb0 hg
        have hv := evs_ok s.glb f.t hg
        generalize hev : a.eval g = v at hv
        cases hv with
        | fn _ _ _ _ va vb hf hla hlb h2 h3 =>
        split at e
        · rename_i d mark hd hmk
          split at e
          · rename_i hl hnewl
            split at e
            · rename_i fid args hinv
              split at e
              · rename_i rv u1 hc hcall
                split at e
                · rename_i st pend nt t pl as bd dd hgl
                  replace e := bifF e; obtain ⟨hst, e⟩ := e
                  have hst : st ≠ 1 := by intro h; subst h; simp at hst
                  split at e
                  · rename_i hs hset
                    -- entering
                    have enter : ∃ (w1 : World) (μ1 : Mu) (rl : Bk) (mk : List Deferred) (lid : Nat), (Instr.enterLoop b.fn a.tmps ps asg body b.roundOf).run P w = .ok (rl.b, mk) w1 ∧ Sim M μ1 hl w1 ∧ Grow M μ w M μ1 w1 ∧ lid = h.nx + 1 ∧ μ1 lid = some rl ∧ DefsRep M μ1 mark mk := by
                      obtain ⟨hget, hgs, _⟩ := Hp.get_new hnewl
                      split at hmk
                      · rename_i hro
                        have hbr : b.roundOf = none := by have := f.r; unfold RoRep at this; rw [hro] at this; exact this
                        split at hmk
                        · rename_i hd1 hnewd
                          cases hmk
                          obtain ⟨dget, dgs, _⟩ := Hp.get_new hnewd
                          let rd : Bk := ⟨w.heap.size, 0, 0, 0⟩
                          obtain ⟨s1, μd⟩ := s.fresh (w' := w.alloc (.deferred (some []))) (r := rd) (o := .deferred (some [])) dget dgs rfl rfl ⟨some [], rfl, trivial⟩
                          have g1 := Grow.newBlk (M := M) (μ := μ) (w := w) (w' := w.alloc (.deferred (some []))) (r := rd) (o := .deferred (some [])) μd rfl rfl rfl rfl rfl (fun _ _ _ h => by cases h)
                          let lp : Loop := { state := .ready, pending := none, fn := b.fn, tmps := a.tmps, params := ps, assign := asg, body := body, defers := w.heap.size }
                          let rl : Bk := ⟨(w.alloc (.deferred (some []))).heap.size, 0, 0, 0⟩
                          have μl0 : upd μ h.nx rd (h.nx + 1) = none := by
                            cases hm : upd μ h.nx rd (h.nx + 1) with
                            | none => rfl
                            | some x => exact absurd hget (s1.use _ x hm).1
                          have hle2 := upd_le (r := rl) μl0
                          obtain ⟨s2, μl⟩ := s1.fresh (w' := (w.alloc (.deferred (some []))).alloc (.loop lp)) (r := rl) (o := .loop lp) hget hgs rfl rfl
                            ⟨lp, rd, rfl, rfl, by decide, rfl, f.t.mono (.refl _) (g1.u.trans hle2), by simp [lp], rfl, rfl, hle2 _ _ (by simp [upd]), rfl⟩
                          have g2 := Grow.newBlk (M := M) (w := w.alloc (.deferred (some []))) (w' := (w.alloc (.deferred (some []))).alloc (.loop lp)) (r := rl) (o := .loop lp) μl rfl rfl rfl rfl rfl (fun _ _ _ h => by cases h)
                          refine ⟨_, _, rl, [{ target := .collected w.heap.size, args := #[] }], _, ?_, s2, g1.trans g2, rfl, by simp [upd], ⟨⟨rd, hle2 _ _ (by simp [upd]), rfl, rfl⟩, trivial⟩⟩
                          rw [hbr]
                          simp [Instr.enterLoop, lp, rl]
                        · cases hmk
                      · rename_i l0 hro
                        have hbr := f.r
                        unfold RoRep at hbr
                        rw [hro] at hbr
                        obtain ⟨rb, hrb, hbr⟩ := hbr
                        split at hmk
                        · rename_i st0 pend0 nt0 t0 ps0 asg0 body0 d0 hb0
                          cases hmk
                          obtain ⟨r', hr', l1, rd, b1, b2, b3, b4, b5, b6, b7, b8, b9, b10⟩ := s.blk l0 _ hb0
                          rw [hrb] at hr'; cases hr'
                          let lp : Loop := { state := .ready, pending := none, fn := b.fn, tmps := a.tmps, params := ps, assign := asg, body := body, defers := rd.b }
                          let rl : Bk := ⟨w.heap.size, 0, 0, 0⟩
                          have μl0 : μ (h.nx + 1) = none := by
                            cases hm : μ (h.nx + 1) with
                            | none => rfl
                            | some x => exact absurd hget (s.use _ x hm).1
                          have hle2 := upd_le (r := rl) μl0
                          obtain ⟨s2, μl⟩ := s.fresh (w' := w.alloc (.loop lp)) (r := rl) (o := .loop lp) hget hgs rfl rfl
                            ⟨lp, rd, rfl, rfl, by decide, rfl, f.t.mono (.refl _) hle2, by simp [lp], rfl, rfl, hle2 _ _ b9, rfl⟩
                          have g2 := Grow.newBlk (M := M) (w := w) (w' := w.alloc (.loop lp)) (r := rl) (o := .loop lp) μl rfl rfl rfl rfl rfl (fun _ _ _ h => by cases h)
                          refine ⟨_, _, rl, [], _, ?_, s2, g2, rfl, by simp [upd], trivial⟩
                          rw [hbr]
                          simp [Instr.enterLoop, lp, rl, getLoop_run b1, b10]
                        · cases hmk
                    obtain ⟨w1, μ1, rl, mk, lid, hent, s1, g1, rfl, hrl, hdm⟩ := enter
                    have hyl : Rep M μ1 (.yl (h.nx + 1)) (.func (.yield rl.b) #[] #[]) := .yl _ _ rl hrl
                    obtain ⟨k1, g0, as0, k2⟩ := invoke_ok (P := P) (w := w1) (vf := va.toList) (vc := vb.toList) (va := [.func (.yield rl.b) #[] #[]])
                      ⟨by simpa using hla, fun i c v p q => (h2 i c v p (by simpa using q)).mono (.refl _) g1.u⟩ ⟨by simpa using hlb, fun i c v p q => (h3 i c v p (by simpa using q)).mono (.refl _) g1.u⟩ (RepL.cons hyl (RepL.nil _ _)) hinv
                    obtain ⟨vs, hrun, hargs, fn1, c1, hfn1, hbody1⟩ := k1
                    have hres : (resolve a.eval (rangeCall g rl.b) 0).run P w1 = .ok { target := .fn fn vb, args := va ++ #[.func (.yield rl.b) #[] #[]] } w1 := by
                      show Sem.run P (Deferred.ofValue (a.eval g) (#[Operand.const (.func (.yield rl.b) #[] #[])].map a.eval)) w1 = _
                      have hm1 : #[Operand.const (.func (.yield rl.b) #[] #[])].map a.eval = #[Value.func (.yield rl.b) #[] #[]] := by simp [Act.eval]
                      rw [hev, hm1]; rfl
                    have hcat : (va.toList ++ [Value.func (.yield rl.b) #[] #[]]).toArray = va ++ #[.func (.yield rl.b) #[] #[]] := by apply Array.ext'; simp
                    have hstep := stepR_rangeFunc (P := P) (b := b) (a := a) (k := k) (cs := cs) hent hres (by rw [hcat] at hrun; exact hrun)
                    have s1n : Sim M μ1 { hl with nx := h.nx + 1 + 1 } w1 := s1.nx fun _ => rfl
                    obtain ⟨M2, μ2, w2, fr2, s2, g2, st2, hfn2, x2, hx2, hl2⟩ := R.nrm hcall s1n hargs (b.atR { a with defers := mk ++ a.defers } (.inRangeFunc rl.b :: k) :: cs)
                    obtain ⟨r', hr', l1, rd, b1, b2, b3, b4, b5, b6, b7, b8, b9, b10⟩ := s2.blk _ _ hgl
                    rw [g2.u _ _ hrl] at hr'; cases hr'
                    subst b4
                    have hnb : (l1.state == LoopState.busy) = false := by
                      rw [b2]
                      match st, hst, b3 with
                      | 0, _, _ => rfl
                      | 2, _, _ => rfl
                      | 3, _, _ => rfl
                    have hnb2 : ¬ ((l1.state == LoopState.busy) = true) := by rw [hnb]; exact Bool.false_ne_true
                    have so := setObj_run (P := P) (o' := .loop { l1 with state := .exhausted }) b1 (by intro a t f hc; cases hc)
                    have hend : (Instr.endLoop rl.b).run P w2 = .ok l1.pending { w2 with heap := w2.heap.setIfInBounds rl.b (.loop { l1 with state := .exhausted }) } := by
                      simp only [Instr.endLoop, Sem.run_bind, getLoop_run b1, Result.andThen, if_neg hnb2, so, Sem.run_pure]
                    obtain ⟨s3, g3⟩ := s2.object (o' := .loop { l1 with state := .exhausted }) hgl (g2.u _ _ hrl) trivial hset b1 (by intro a t f hc; cases hc)
                      ⟨_, rd, rfl, rfl, by decide, rfl, b5, b6, b7, b8, b9, b10⟩
                    have f3 : FrRep M2 μ2 { fr with ds := mark ++ fr.ds } b { a with defers := mk ++ a.defers } cs := by
                      have f2 := f.mono (g1.m.trans g2.m) (g1.u.trans g2.u)
                      refine ⟨f2.t, ?_, f2.u, f2.r⟩
                      have hdm2 := hdm.mono g2.m g2.u
                      have app : ∀ {x : List DF} {y : List Deferred}, DefsRep M2 μ2 x y → DefsRep M2 μ2 (x ++ fr.ds) (y ++ a.defers) := by
                        intro x
                        induction x with
                        | nil => intro y hy; cases y with
                          | nil => exact f2.d
                          | cons _ _ => exact hy.elim
                        | cons d0 x ih => intro y hy; cases y with
                          | nil => exact hy.elim
                          | cons _ _ => exact ⟨hy.1, ih hy.2⟩
                      exact app hdm2
                    have hgr := (g1.trans g2).trans g3
                    have st3 : Steps P (lone (b.atR a (.code (.rangeFunc g ps asg body) :: k)) cs w) (lone (b.atR { a with defers := mk ++ a.defers } ((l1.pending.map Item.code).toList ++ k)) cs { w2 with heap := w2.heap.setIfInBounds rl.b (.loop { l1 with state := .exhausted }) }) := by
                      refine .head hstep (st2.trans (.head ?_ (.one (stepR_endRangeFunc hend))))
                      rw [← finish_atR_inRangeFunc rl.b x2]; exact step_leave_returned hl2
                    clear hend so g3
                    generalize ({ w2 with heap := w2.heap.setIfInBounds rl.b (.loop { l1 with state := .exhausted }) } : World) = w3 at s3 hgr st3
                    split at e <;> rename_i hpd <;> (try rw [hpd] at st3)
                    · cases e; exact ⟨M2, μ2, _, _, cs, s3, hgr, f3, .refl _, st3⟩
                    · cases e; exact ⟨M2, μ2, _, _, cs, s3, hgr, f3, .refl _, k, st3⟩
                    · cases e; exact ⟨M2, μ2, _, _, cs, s3, hgr, f3, .refl _, k, rfl, st3⟩
                    · cases e; exact ⟨M2, μ2, _, _, cs, s3, hgr, f3, .refl _, k, rfl, st3⟩
                    · cases e
                  · cases e
                · cases e
              · cases e
            · cases e
          · cases e
        · cases e
      · cases e
end
end Go.Proofs.YtfecnejgdafbcaaGreatDoor.Pi
