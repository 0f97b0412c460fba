/- A part of the evaluator of the model's code and of its soundness, for any program. No condition. -/
import Derived.Test.YtfecnejgdafbcaaGreatDoorPiW
namespace Go.Proofs.YtfecnejgdafbcaaGreatDoor.Pi
set_option linter.all false
variable [Gl]
section
variable {P : Program} {sh : FuncId → Bool} {rec : Rec} {M : Mem} {μ : Mu} {h : Hp} {w : World}

theorem resv_ok (s : Sim M μ h w) {t : T PV} {nt : Nat} {tmps : Array Value} (ht : TmpsRep M μ t nt tmps) {r : ResultVar} {p : PV} (e : resv P h t r = some p) :
    ∃ x, (match r with
      | .tmp t => pure (tmps.getD t undef)
      | .cell a t => do loadVar t (← asAddr (tmps.getD a undef)) : Sem Value).run P w = .ok x w ∧ Rep M μ p x := by
  unfold resv at e
  split at e
  · rename_i k
    cases e
    exact ⟨_, rfl, ht.2.2 k⟩
  · rename_i a ty
    split at e
    · rename_i j off hp
      split at e
      · rename_i cs fz hb
        have h3 := ht.2.2 a
        rw [hp] at h3
        simp only [Option.getD_some] at h3
        obtain ⟨r, hr, hc⟩ := ptr_cells s (off := off) hb
        obtain ⟨v, h1, h2⟩ := loadVar_ok (P := P) hc e
        generalize hv : tmps.getD a undef = x at h3
        cases h3 with
        | ptr _ _ _ r' hr' =>
          rw [hr] at hr'; cases hr'
          refine ⟨v, ?_, h2⟩
          simp only [hv]
          simpa [asAddr] using h1
      · cases e
    · cases e
theorem resl_ok (s : Sim M μ h w) {t : T PV} {nt : Nat} {tmps : Array Value} (ht : TmpsRep M μ t nt tmps) : ∀ {l : List ResultVar} {ps : List PV}, resl P h t l = some ps →
    ∃ xs : List Value, (l.mapM (fun | .tmp t => pure (tmps.getD t undef) | .cell a t => do loadVar t (← asAddr (tmps.getD a undef)) : ResultVar → Sem Value)).run P w = .ok xs w ∧ RepL M μ ps xs
  | [], ps, e => by simp [resl] at e; subst e; exact ⟨[], by simp, RepL.nil _ _⟩
  | r :: l, ps, e => by
    unfold resl at e
    split at e
    · rename_i p ps' hp hps
      cases e
      obtain ⟨x, h1, h2⟩ := resv_ok s ht hp
      obtain ⟨xs, h3, h4⟩ := resl_ok s ht hps
      refine ⟨x :: xs, ?_, RepL.cons h2 h4⟩
      rw [List.mapM_cons]
      simp only [Sem.run_bind, h1, Result.andThen, h3, Sem.run_pure]
    · cases e
theorem results_ok (s : Sim M μ h w) {fn : Func} {t : T PV} {nt : Nat} {tmps : Array Value} (ht : TmpsRep M μ t nt tmps) {v : PV} (e : results P fn h t = some v) : ∃ x, (Go.results fn tmps).run P w = .ok x w ∧ Rep M μ v x := by
  unfold results at e
  have key : ∀ {ps : List PV}, resl P h t fn.results.toList = some ps → ∃ xs : Array Value, (fn.results.mapM (fun | .tmp t => pure (tmps.getD t undef) | .cell a t => do loadVar t (← asAddr (tmps.getD a undef)) : ResultVar → Sem Value)).run P w = .ok xs w ∧ RepL M μ ps xs.toList := by
    intro ps hps
    obtain ⟨xs, h1, h2⟩ := resl_ok s ht hps
    refine ⟨xs.toArray, ?_, by simpa using h2⟩
    rw [Array.mapM_eq_mapM_toList]
    simp only [Sem.run_map, h1]
    rfl
  have shape : (Go.results fn tmps).run P w = ((fn.results.mapM (fun | .tmp t => pure (tmps.getD t undef) | .cell a t => do loadVar t (← asAddr (tmps.getD a undef)) : ResultVar → Sem Value)) >>= fun vs => (pure (if h : vs.size = 1 then vs[0] else .tuple vs) : Sem Value)).run P w := rfl
  rw [shape]
  split at e
  · rename_i v0 hps
    cases e
    obtain ⟨xs, h1, h2⟩ := key hps
    obtain ⟨x, hx, hr⟩ := argv1 h2 rfl
    have hxs : xs = #[x] := by rw [← Array.toArray_toList (xs := xs), hx]
    subst hxs
    exact ⟨x, by simp only [Sem.run_bind, h1, Result.andThen, Sem.run_pure]; rfl, hr⟩
  · rename_i ps hne hps
    cases e
    obtain ⟨xs, h1, h2⟩ := key hps
    have hsz : xs.size ≠ 1 := by
      intro h
      have : ps.length = 1 := by rw [h2.1]; simpa using h
      match ps, this with
      | [p], _ => exact hne p rfl
    refine ⟨.tuple xs, by simp only [Sem.run_bind, h1, Result.andThen, Sem.run_pure, dif_neg hsz], .tup _ _ _ (by simpa using h2.1) fun i c v a b => h2.2 i c v a (by simpa using b)⟩
  · cases e

theorem settle_ok {u : UM} {m : FrameMode} (hr : UMRep M μ u m) : UMRep M μ (settleP u) (settle m) := by
  cases u with
  | ret => have hr : m = .returning := hr; subst hr; rfl
  | pan ch =>
    obtain ⟨chain, rfl, hc⟩ := hr
    cases ch with
    | nil => cases chain with
      | nil => exact ⟨[], rfl, trivial⟩
      | cons _ _ => exact hc.elim
    | cons e older =>
      cases chain with
      | nil => exact hc.elim
      | cons p ps =>
        obtain ⟨c1, c2, c3, c4⟩ := hc
        obtain ⟨ev, er⟩ := e
        obtain ⟨pv, pr, pg⟩ := p
        simp only at c2 c3
        subst c2; subst c3
        cases er with
        | false => exact ⟨_, rfl, c1, rfl, rfl, c4⟩
        | true =>
          have drop : ∀ {l : List PE} {m : List PanicEntry}, ChRep M μ l m → m.dropWhile (!·.goexit) = [] := by
            intro l
            induction l with
            | nil => intro m hm; cases m with
              | nil => rfl
              | cons _ _ => exact hm.elim
            | cons _ _ ih => intro m hm; cases m with
              | nil => rfl
              | cons q qs =>
                obtain ⟨_, _, d3, d4⟩ := hm
                simp [d3, ih d4]
          have := drop c4
          show settle (.panicking ({ v := pv, recovered := true } :: ps)) = .returning
          simp [settle, this]

/-- a frame that is about to go -/
def Goes (P : Program) (M : Mem) (μ : Mu) (fr : Frame) (w : World) : Out → Prop := OutD P M μ fr w
theorem mode_ne {u : UM} {m : FrameMode} (hr : UMRep M μ u m) : m ≠ .run := by
  cases u with
  | ret => have hr : m = .returning := hr; subst hr; intro h; cases h
  | pan ch => obtain ⟨chain, rfl, _⟩ := hr; intro h; cases h
theorem defs_app {x y : List DF} {X Y : List Deferred} (hx : DefsRep M μ x X) (hy : DefsRep M μ y Y) : DefsRep M μ (x ++ y) (X ++ Y) := by
  induction x generalizing X with
  | nil => cases X with
    | nil => exact hy
    | cons _ _ => exact hx.elim
  | cons d x ih => cases X with
    | nil => exact hx.elim
    | cons _ _ => exact ⟨hx.1, ih hx.2⟩
theorem leave_ok (R : RecOK P rec) {fn : Func} {t : T PV} {nt : Nat} : ∀ (n : Nat) {ds : List DF} {u : UM} {h h' : Hp} {o : Out}, leave P rec fn n ds u t h = some (o, h') →
    ∀ {M : Mem} {μ : Mu} {w : World} {fr : Frame} (cs : List Frame), Sim M μ h w → UMRep M μ u fr.mode → DefsRep M μ ds fr.defers → TmpsRep M μ t nt fr.tmps → P.funcs[fr.fn]? = some fn →
    ∃ M' μ' w' fr', Sim M' μ' h' w' ∧ Grow M μ w M' μ' w' ∧ Steps P (lone fr cs w) (lone fr' cs w') ∧ fr'.fn = fr.fn ∧ fr'.kind = fr.kind ∧ OutD P M' μ' fr' w' o
  | 0, _, _, _, _, _, e, _, _, _, _, _, _, _, _, _, _ => by simp [leave] at e
  | n + 1, ds, u, h, h', o, e, M, μ, w, fr, cs, s, hu, hd, ht, hfn => by
    unfold leave at e
    split at e
    · have hdn : fr.defers = [] := by
        cases hfd : fr.defers with
        | nil => rfl
        | cons _ _ => rw [hfd] at hd; exact hd.elim
      split at e
      · split at e
        · rename_i v hv
          cases e
          obtain ⟨x, h1, h2⟩ := results_ok s ht hv
          exact ⟨M, μ, w, fr, s, .refl _ _ _, .refl _ _, rfl, rfl, x, h2, hu, hdn, fn, hfn, h1⟩
        · cases e
      · rename_i ch
        cases e
        obtain ⟨chain, h1, h2⟩ := hu
        exact ⟨M, μ, w, fr, s, .refl _ _ _, .refl _ _, rfl, rfl, chain, h2, h1, hdn, fn, hfn⟩
    · rename_i id ds
      cases hfd : fr.defers with
      | nil => rw [hfd] at hd; exact hd.elim
      | cons D Ds =>
        rw [hfd] at hd
        obtain ⟨⟨r, hr, htar, hargs⟩, hds⟩ := hd
        obtain ⟨Dt, Da⟩ := D
        simp only at htar hargs
        subst htar; subst hargs
        split at e
        · rename_i l hb
          split at e
          · rename_i h1 hset
            obtain ⟨r', hr', dd, b1, b2⟩ := s.blk id _ hb
            rw [hr] at hr'; cases hr'
            cases dd with
            | none => exact b2.elim
            | some calls =>
              have so := setObj_run (P := P) (o' := .deferred none) b1 (by intro a t f hc; cases hc)
              obtain ⟨s1, g1⟩ := s.object (o' := .deferred none) hb hr trivial hset b1 (by intro a t f hc; cases hc) ⟨none, rfl, trivial⟩
              have hrun : (Instr.takeDeferred r.b).run P w = .ok calls { w with heap := w.heap.setIfInBounds r.b (.deferred none) } := by
                have hg : (getObj r.b).run P w = .ok (.deferred (some calls)) w := by simp [getObj, Sem.run, b1]
                simp only [Instr.takeDeferred, Sem.run_bind, hg, Result.andThen, so, Sem.run_pure]
              have st := step_collect (P := P) (cs := cs) (mode_ne hu) hfd hrun
              obtain ⟨M', μ', w', fr', q1, q2, q3, q4, q5, q6⟩ := leave_ok R n e (fr := { fr with defers := calls ++ Ds }) cs s1 hu (defs_app b2 hds) ht hfn
              exact ⟨M', μ', w', fr', q1, g1.trans q2, .head st q3, q4, q5, q6⟩
          · cases e
        · cases e
    · rename_i b ats ty args ds
      cases hfd : fr.defers with
      | nil => rw [hfd] at hd; exact hd.elim
      | cons D Ds =>
        rw [hfd] at hd
        obtain ⟨⟨consts, va, htar, hargs, hra⟩, hds⟩ := hd
        obtain ⟨Dt, Da⟩ := D
        simp only at htar hargs
        subst htar; subst hargs
        split at e
        · split at e
          · rename_i v h1 hbt
            obtain ⟨M1, μ1, w1, x, hrun, s1, g1, hx⟩ := builtin_ok (ty := ty) (cs := consts) s hra hbt
            have st := step_deferBuiltin (P := P) (cs := cs) (mode_ne hu) hfd hrun
            obtain ⟨M', μ', w', fr', q1, q2, q3, q4, q5, q6⟩ := leave_ok R n e (fr := { fr with defers := Ds }) cs s1 (hu.mono g1.m g1.u) (hds.mono g1.m g1.u) (ht.mono g1.m g1.u) hfn
            exact ⟨M', μ', w', fr', q1, g1.trans q2, .head st q3, q4, q5, q6⟩
          · cases e
        · cases e
    · rename_i f args ds
      cases hfd : fr.defers with
      | nil => rw [hfd] at hd; exact hd.elim
      | cons D Ds =>
        rw [hfd] at hd
        obtain ⟨⟨fv, first, cap, vf, vc, va, hfe, hny, htar, hargs, hra, hrb, hrc⟩, hds⟩ := hd
        obtain ⟨Dt, Da⟩ := D
        simp only at htar hargs
        subst htar; subst hargs
        subst hfe
        cases fv with
        | func g =>
          simp only at e
          cases hinv : pinvoke P (.func g) first cap args with
          | none => rw [hinv] at e; cases e
          | some rr =>
            rw [hinv] at e
            obtain ⟨hsay, g', args', rfl⟩ := invoke_ok (P := P) (w := w) hra hrb hrc hinv
            obtain ⟨vs, hrun, hvs, _⟩ := hsay
            simp only at e
            split at e
            · rename_i rv u1 h1 hcall
              obtain ⟨M1, μ1, w1, frX, m1, u1', s1, g1, st1, hup, hum, hkX, x, hx, hgo⟩ := R.dfr hcall s hvs { fr with defers := Ds } cs hu
              cases hup
              have st := step_defer (P := P) (cs := cs) (mode_ne hu) hfd rfl hrun
              have st2 := step_going_returned (c := { { fr with defers := Ds } with mode := m1 }) (cs := cs) hkX hgo
              obtain ⟨M', μ', w', fr', q1, q2, q3, q4, q5, q6⟩ := leave_ok R n e (fr := { { { fr with defers := Ds } with mode := m1 } with mode := settle m1 }) cs s1 (settle_ok hum) (hds.mono g1.m g1.u) (ht.mono g1.m g1.u) hfn
              exact ⟨M', μ', w', fr', q1, g1.trans q2, .head st (st1.trans (.head st2 q3)), q4, q5, q6⟩
            · cases e
        | _ => cases e

theorem setArgs_get : ∀ (l : List PV) (i : Nat) (t : T PV) (k : Nat), i + l.length ≤ 1048575 → (setArgs i l t).get k = if i ≤ k ∧ k < i + l.length then l[k - i]? else t.get k
  | [], i, t, k, _ => by simp [setArgs]; intro a b; omega
  | a :: l, i, t, k, hle => by
    simp only [List.length_cons] at hle
    unfold setArgs
    rw [setArgs_get l (i + 1) _ k (by omega), T.get_put 20 t i a k (by have : (2 : Nat) ^ 20 - 1 = 1048575 := by decide
                                                                       omega)]
    by_cases hk : k = i
    · subst hk; rw [if_neg (by omega), if_pos rfl, if_pos (by simp)]; simp
    · by_cases h1 : i + 1 ≤ k ∧ k < i + 1 + l.length
      · rw [if_pos h1, if_pos (by simp; omega), show k - i = (k - (i + 1)) + 1 by omega]; simp
      · rw [if_neg h1, if_neg hk, if_neg (by simp; omega)]
theorem enter_tmps {args : List PV} {vs : List Value} (ha : RepL M μ args vs) {n : Nat} (h1 : args.length ≤ n) (h2 : n < 1048575) : TmpsRep M μ (setArgs 0 args .lf) n (vs.toArray ++ Array.replicate (n - vs.toArray.size) undef) := by
  have hl := ha.1
  refine ⟨h2, by simp; omega, fun k => ?_⟩
  rw [setArgs_get args 0 .lf k (by omega)]
  by_cases hk : k < args.length
  · rw [if_pos (by omega)]
    obtain ⟨v, hv, hr⟩ := ha.get (i := k) (List.getElem?_eq_getElem hk)
    have : (vs.toArray ++ Array.replicate (n - vs.toArray.size) undef).getD k undef = v := by
      rw [Array.getD_eq_getD_getElem?, Array.getElem?_append_left (by simp; omega)]
      simp [hv]
    rw [this]
    simpa [List.getElem?_eq_getElem hk] using hr
  · rw [if_neg (by omega)]
    have : (vs.toArray ++ Array.replicate (n - vs.toArray.size) undef).getD k undef = undef := by
      rw [Array.getD_eq_getD_getElem?, Array.getElem?_append_right (by simp; omega), Array.getElem?_replicate]
      split <;> rfl
    rw [this]
    exact rep_undef M μ
theorem setParams_ok {nt : Nat} : ∀ {ps : List Nat} {args : List PV} {vs : List Value} {t t' : T PV} {tmps : Array Value}, setParams nt ps args t = some t' → RepL M μ args vs → TmpsRep M μ t nt tmps →
    ps.length = vs.length ∧ TmpsRep M μ t' nt ((ps.zip vs).foldl (fun tmps (x : Nat × Value) => tmps.setIfInBounds x.1 x.2) tmps)
  | [], [], vs, t, t', tmps, e, hr, ht => by
    simp [setParams] at e
    subst e
    rw [hr.nil_inv]
    exact ⟨rfl, ht⟩
  | [], _ :: _, vs, t, t', tmps, e, hr, ht => by simp [setParams] at e
  | _ :: _, [], vs, t, t', tmps, e, hr, ht => by simp [setParams] at e
  | p :: ps, a :: args, vs, t, t', tmps, e, hr, ht => by
    unfold setParams at e
    replace e := bifT e; obtain ⟨hp, e⟩ := e
    obtain ⟨x, ws, rfl, hx, hrest⟩ := hr.cons_inv
    obtain ⟨h1, h2⟩ := setParams_ok e hrest (tmps_put ht (by simpa using hp) hx)
    exact ⟨by simp [h1], by simpa using h2⟩
end
end Go.Proofs.YtfecnejgdafbcaaGreatDoor.Pi
