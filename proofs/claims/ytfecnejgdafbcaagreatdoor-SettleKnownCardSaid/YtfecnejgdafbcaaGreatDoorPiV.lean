/- A part of the evaluator of the model's code and of its soundness, for any program. No condition. -/
import Derived.Test.YtfecnejgdafbcaaGreatDoorPiU
namespace Go.Proofs.YtfecnejgdafbcaaGreatDoor.Pi
set_option linter.all false
variable [Gl]
section
variable {P : Program} {M : Mem} {μ : Mu} {h : Hp} {w : World} {sh : FuncId → Bool} {rec : Rec}

theorem doCall_ok (R : RecOK P rec) {f : FuncId} {args : List PV} {o : Out} {h' : Hp} {id : Nat} (e : doCall sh rec id f args h = some (o, h')) (s : Sim M μ h w) {vs : List Value} (ha : RepL M μ args vs) (cs : List Frame) :
    ∃ M' μ' w' fr, Sim M' μ' h' w' ∧ Grow M μ w M' μ' w' ∧ Steps P (lone (Frame.enter P f vs.toArray .normal) cs w) (lone fr cs w') ∧ fr.fn = f ∧ OutN P M' μ' fr w' o := by
  unfold doCall at e
  cases hs : sh f with
  | true =>
    simp only [hs, cond_true] at e
    split at e
    · rename_i o1 u1 h1 he
      cases e
      exact R.nrm he s ha cs
    · cases e
  | false =>
    simp only [hs, cond_false] at e
    split at e
    · rename_i as l hp
      have ha2 := purl_ok s l hp ha (fun _ h => h)
      split at e
      · rename_i r u1 h2 he
        obtain ⟨M2, μ2, w2, fr, s2, g2, st, hfn, x, hx, hl⟩ := R.nrm he (s.empty l) ha2 cs
        obtain ⟨⟨q, hq⟩, hb, e⟩ := mapOpt e
        cases e
        obtain ⟨M', μ', j1, j2, j3⟩ := handBack_ok s s2 g2 hx hb
        exact ⟨M', μ', w2, fr, j1, j2, st, hfn, x, j3, hl⟩
      · rename_i e0 rc u1 h2 he
        obtain ⟨M2, μ2, w2, fr, s2, g2, st, hfn, chain, hx, hl⟩ := R.nrm he (s.empty l) ha2 cs
        split at e
        · rename_i q l2 hq
          replace e := bifT e; obtain ⟨hfl, e⟩ := e
          cases e
          obtain ⟨j1, j2⟩ := join_flat s g2
          refine ⟨M, μ, w2, fr, j1, j2, st, hfn, chain, ?_, hl⟩
          cases chain with
          | nil => exact hx
          | cons p ps =>
            obtain ⟨c1, c2, c3, c4⟩ := hx
            cases ps with
            | cons _ _ => exact c4.elim
            | nil => exact ⟨flat_rep hfl M μ (pur_ok s2 l2 _ _ _ _ _ hq c1 (fun _ h => h)), c2, c3, trivial⟩
        · cases e
      · cases e
    · cases e

theorem defs_cons {d : DF} {D : Deferred} {ds : List DF} {l : List Deferred} (h1 : DefRep M μ d D) (h2 : DefsRep M μ ds l) : DefsRep M μ (d :: ds) (D :: l) := ⟨h1, h2⟩
theorem semAt_other {ro : Option Nat} {ρ : Operand → Value} {o : Oper} (h : ro = none ∨ ∀ c, o.op ≠ .defer c) : o.semAt ro ρ = execOp ρ o := by
  rcases h with rfl | h
  · rfl
  · exact Oper.semAt_eq ro ρ o h
theorem evalOp_dfr {t : T PV} {id : Nat} {o : Oper} {c : Call} {r : R} (ho : o.op = .defer c) (e : evalOp P t h id o = some r) : ∃ d, r = .dfr d := by
  unfold evalOp at e
  rw [ho] at e
  simp only at e
  split at e
  · split at e
    · cases e; exact ⟨_, rfl⟩
    · unfold e1 at e
      split at e
      · dsimp only at e
        split at e
        · cases e; exact ⟨_, rfl⟩
        · cases e
      · cases e
    · cases e
  · cases e

theorem runOps_ok (R : RecOK P rec) {ops : Array Oper} {base : Nat} : ∀ (L : List (Nat × Oper)) {fr fr' : Fr} {h h' : Hp} {ex : Ex}, runOps P sh rec base ops.toList L fr h = some (ex, fr', h') → (∀ x ∈ L, ops[x.1]? = some x.2) →
    ∀ {M : Mem} {μ : Mu} {w : World} {b : Frame} {a : Act} {cs : List Frame} (k : List Item), Sim M μ h w → FrRep M μ fr b a cs → Ran P M μ w (lone (b.atR a (.inRegion ops (L.map (·.1)) :: k)) cs w) b k cs ex fr' h'
  | [], fr, fr', h, h', ex, e, hL, M, μ, w, b, a, cs, k, s, hf => by
    simp only [runOps] at e
    cases e
    exact ⟨M, μ, w, a, cs, s, .refl _ _ _, hf, .refl _, .one stepR_region_end⟩
  | (i, o) :: L, fr, fr', h, h', ex, e, hL, M, μ, w, b, a, cs, k, s, hf => by
    have ho : ops[i]? = some o := hL (i, o) (by simp)
    have hL2 : ∀ x ∈ L, ops[x.1]? = some x.2 := fun x hx => hL x (by simp [hx])
    unfold runOps at e
    -- the rest, from a new state
    have go : ∀ {fr1 : Fr} {h1 : Hp} {M1 : Mem} {μ1 : Mu} {w1 : World} {a1 : Act} {cs1 : List Frame}, runOps P sh rec base ops.toList L fr1 h1 = some (ex, fr', h') → Sim M1 μ1 h1 w1 → Grow M μ w M1 μ1 w1 → FrRep M1 μ1 fr1 b a1 cs1 → Tail b.kind cs cs1 →
        Steps P (lone (b.atR a (.inRegion ops (i :: L.map (·.1)) :: k)) cs w) (lone (b.atR a1 (.inRegion ops (L.map (·.1)) :: k)) cs1 w1) →
        Ran P M μ w (lone (b.atR a (.inRegion ops (((i, o) :: L).map (·.1)) :: k)) cs w) b k cs ex fr' h' := by
      intro fr1 h1 M1 μ1 w1 a1 cs1 e1 s1 g1 f1 t1 st
      obtain ⟨M', μ', w', a', cs', q1, q2, q3, q4, q5⟩ := runOps_ok R L e1 hL2 k s1 f1
      exact ⟨M', μ', w', a', cs', q1, g1.trans q2, q3, t1.trans q4, .of_steps st q5⟩
    cases hw : wantedP ops.toList fr.t o.guard with
    | false =>
      simp only [hw, cond_false] at e
      split at e
      · rename_i fr1 hput
        refine go e s (.refl _ _ _) (hf.put (rep_undef M μ) hput) (.refl _) (.one ?_)
        have := stepR_op_skip (P := P) (b := b) (a := a) (k := k) (cs := cs) (w := w) (ops := ops) (i := i) (rest := L.map (·.1)) (by rw [ho]; simp [wanted_ok hf.t o, hw])
        rwa [ho] at this
      · cases e
    | true =>
      have hwt : Region.wanted o (yielded ops a.tmps) = true := by rw [wanted_ok hf.t o, hw]
      simp only [hw, cond_true] at e
      cases hop : evalOp P fr.t h (base + i) o with
      | none => rw [hop] at e; cases e
      | some r =>
        have hsay := evalOp_ok s hf.t hop
        rw [hop] at e
        have hsem : (∀ d, r ≠ .dfr d) → o.semAt b.roundOf a.eval = execOp a.eval o := fun hr => semAt_other (.inr fun c hc => let ⟨d, hd⟩ := evalOp_dfr hc hop; hr d hd)
        cases r with
        | val v h1 =>
          obtain ⟨M1, μ1, w1, x, hrun, s1, g1, hv⟩ := hsay
          simp only at e
          split at e
          · rename_i fr1 hput
            exact go e s1 g1 ((hf.mono g1.m g1.u).put hv hput) (.refl _) (.one (stepP_value ho hwt (by rw [hsem (by intro d h; cases h)]; exact hrun)))
          · cases e
        | skip h1 =>
          obtain ⟨M1, μ1, w1, hrun, s1, g1⟩ := hsay
          simp only at e
          split at e
          · rename_i fr1 hput
            exact go e s1 g1 ((hf.mono g1.m g1.u).put (rep_undef _ _) hput) (.refl _) (.one (stepP_skip ho hwt (by rw [hsem (by intro d h; cases h)]; exact hrun)))
          · cases e
        | dfr d =>
          obtain ⟨D, hrun, hd⟩ := hsay
          simp only at e
          split at e
          · rename_i hro
            split at e
            · rename_i fr1 hput
              have hbr : b.roundOf = none := by have := hf.r; unfold RoRep at this; rw [hro] at this; exact this
              have hf2 : FrRep M μ { fr with ds := d :: fr.ds } b { a with defers := D :: a.defers } cs := ⟨hf.t, ⟨hd, hf.d⟩, hf.u, hf.r⟩
              exact go e s (.refl _ _ _) (hf2.put (rep_undef _ _) hput) (.refl _) (.one (stepP_defer ho hwt (by rw [semAt_other (.inl hbr)]; exact hrun)))
            · cases e
          · cases e
        | call f args =>
          obtain ⟨vs, hrun, hargs, fn, c, hfn, hbody⟩ := hsay
          have henter := stepP_enter (b := b) (a := a) (k := k) (cs := cs) (rest := L.map (·.1)) ho hwt (by rw [hsem (by intro d h; cases h)]; exact hrun)
          simp only at e
          split at e
          · rename_i v h1 hcall
            obtain ⟨M1, μ1, w1, fr0, s1, g1, st, hfn0, x, hx, hl⟩ := doCall_ok R hcall s hargs (b.atR a (.inRegion ops (i :: L.map (·.1)) :: k) :: cs)
            split at e
            · rename_i fr1 hput
              refine go e s1 g1 ((hf.mono g1.m g1.u).put hx hput) (.refl _) (.head henter (st.trans (.one ?_)))
              rw [← fin_atR ho]; exact step_leave_returned hl
            · cases e
          · rename_i e0 h1 hcall
            obtain ⟨M1, μ1, w1, fr0, s1, g1, st, hfn0, chain, hx, hl⟩ := doCall_ok R hcall s hargs (b.atR a (.inRegion ops (i :: L.map (·.1)) :: k) :: cs)
            cases e
            cases chain with
            | nil => exact hx.elim
            | cons p ps =>
              obtain ⟨c1, c2, c3, c4⟩ := hx
              cases ps with
              | cons _ _ => exact c4.elim
              | nil =>
                obtain ⟨pv, prc, pge⟩ := p
                simp only at c1 c2 c3
                subst c2; subst c3
                refine ⟨M1, μ1, w1, a, cs, s1, g1, hf.mono g1.m g1.u, .refl _, .inRegion ops (i :: L.map (·.1)) :: k, pv, c1, .head henter (st.trans (.one ?_))⟩
                rw [← Frame.raise_atR]; exact step_leave_panicked hl
          · cases e
        | yield l args =>
          obtain ⟨vs, rb, hrb, hrun, hargs⟩ := hsay
          simp only at e
          split at e
          · rename_i v u1 h1 hcall
            obtain ⟨M1, μ1, w1, x, v', fn, tmps, asg, body, hout, hy, s1, g1, hx, st⟩ := R.yld hcall s hargs hrb (b.atR a (.inRegion ops (i :: L.map (·.1)) :: k)) cs
            cases hout
            split at e
            · rename_i fr1 hput
              refine go e s1 g1 ((hf.mono g1.m g1.u).put hx hput) (.refl _) (.head (stepP_round ho hwt (by rw [hsem (by intro d h; cases h), hrun]; exact hy)) ?_)
              rw [← fin_atR ho]; exact st
            · cases e
          · cases e
        | pan v =>
          obtain ⟨x, hrun, hx⟩ := hsay
          simp only at e
          cases e
          exact ⟨M, μ, w, a, cs, s, .refl _ _ _, hf, .refl _, _, x, hx, .one (stepP_panic ho hwt (by rw [hsem (by intro d h; cases h)]; exact hrun))⟩
        | rcv =>
          have hrun : (execOp a.eval o).run P w = .ok .recover w := hsay
          simp only at e
          split at e
          · cases e
          · rename_i hro
            have hbr : b.roundOf = none := by have := hf.r; unfold RoRep at this; rw [hro] at this; exact this
            have hstep := stepP_recover (b := b) (a := a) (k := k) (cs := cs) (rest := L.map (·.1)) ho hwt hbr (by rw [hsem (by intro d h; cases h)]; exact hrun)
            have hnone : tryRecover (b.atR a (.inRegion ops (i :: L.map (·.1)) :: k)) cs = none → ∀ {fr1 : Fr}, fr.put o.dst .nili = some fr1 → runOps P sh rec base ops.toList L fr1 h = some (ex, fr', h') →
                Ran P M μ w (lone (b.atR a (.inRegion ops (((i, o) :: L).map (·.1)) :: k)) cs w) b k cs ex fr' h' := by
              intro ht fr1 hput e
              rw [ht] at hstep
              exact go e s (.refl _ _ _) (hf.put (.nili _) hput) (.refl _) (.one hstep)
            split at e
            · rename_i v older hup
              split at e
              · rename_i fr1 hput
                have hu := hf.u
                rw [hup] at hu
                obtain ⟨hkd, c, tl, rfl, chain, hm, hch⟩ := hu
                cases chain with
                | nil => exact hch.elim
                | cons p ps =>
                  obtain ⟨c1, c2, c3, c4⟩ := hch
                  obtain ⟨pv, prc, pge⟩ := p
                  simp only at c1 c2 c3
                  subst c2; subst c3
                  have ht : tryRecover (b.atR a (.inRegion ops (i :: L.map (·.1)) :: k)) (c :: tl) = some (pv, { c with mode := .panicking ({ v := pv, recovered := true } :: ps) } :: tl) := by
                    rw [tryRecover_deferred (show (b.atR a (.inRegion ops (i :: L.map (·.1)) :: k)).kind = .deferred from hkd)]; simp only [recoverD, hm]
                  rw [ht] at hstep
                  have hf2 : FrRep M μ { fr with up := some (.pan ({ v, recovered := true } :: older)) } b a ({ c with mode := .panicking ({ v := pv, recovered := true } :: ps) } :: tl) :=
                    ⟨hf.t, hf.d, ⟨hkd, _, tl, rfl, _, rfl, c1, rfl, rfl, c4⟩, hf.r⟩
                  exact go e s (.refl _ _ _) (hf2.put c1 hput) (.inr ⟨hkd, c, tl, _, rfl, rfl⟩) (.one hstep)
              · cases e
            · rename_i hnup
              split at e
              · rename_i fr1 hput
                refine hnone ?_ hput e
                have hu := hf.u
                cases hup : fr.up with
                | none =>
                  rw [hup] at hu
                  have hkn : b.kind = .normal := hu
                  unfold tryRecover
                  simp only [Frame.atR, hkn]
                | some u =>
                  rw [hup] at hu
                  obtain ⟨hkd, c, tl, rfl, hm⟩ := hu
                  rw [tryRecover_deferred (show (b.atR a (.inRegion ops (i :: L.map (·.1)) :: k)).kind = .deferred from hkd)]
                  cases u with
                  | ret => have hm : c.mode = .returning := hm; simp only [recoverD, hm]
                  | pan ch =>
                    obtain ⟨chain, hm, hch⟩ := hm
                    cases ch with
                    | nil => cases chain with
                      | nil => simp only [recoverD, hm]
                      | cons _ _ => exact hch.elim
                    | cons e0 older =>
                      cases chain with
                      | nil => exact hch.elim
                      | cons p ps =>
                        obtain ⟨c1, c2, c3, c4⟩ := hch
                        obtain ⟨ev, erc⟩ := e0
                        cases erc with
                        | false => exact absurd hup (hnup ev older)
                        | true =>
                          obtain ⟨pv, prc, pge⟩ := p
                          simp only at c2
                          subst c2
                          simp only [recoverD, hm]
              · cases e
end
end Go.Proofs.YtfecnejgdafbcaaGreatDoor.Pi
