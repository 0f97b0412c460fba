/- What the package-level variables hold that the law reads, and errors.As, errors.Is, strings.Compare answered as a whole: the evaluator's conditions on both, met. Condition of the last theorem: the two variables hold what the row says. -/
import Derived.Test.YtfecnejgdafbcaaGreatDoorPr
import Derived.Test.YtfecnejgdafbcaaGreatDoorPiZM
namespace Go.Proofs.YtfecnejgdafbcaaGreatDoor.Gv
set_option linter.all false
open Go Go.Proofs.YtfecnejgdafbcaaGreatDoor.Pi Go.RowKit
set_option maxRecDepth 100000
/-- 0: debt.errSettled; 1: errors.errorType; 112: errors.As; 113: errors.Is; 247: strings.Compare -/
instance gl : Gl where
  g n := bif Nat.beq n 0 then some [.ifc 627 (.gk 0)] else bif Nat.beq n 1 then some [.ifc 372 (.agg [.adr 5 169])] else none
  pr f := bif Nat.beq f 112 then some (.as [(229, 227)] [627]) else bif Nat.beq f 113 then some (.is [627]) else bif Nat.beq f 247 then some .cmp else none
theorem gl_et : Gl.g 1 = some [.ifc 372 (.agg [.adr 5 169])] := rfl
theorem run_storeF (t : Addr) (v old : Value) (W : World) (h1 : v.oneCell' = true) (hs : t.spot = none) (ht : W.cell? t = some old) (hf : W.frozen? t = false) :
    (Instr.storeAt 227 (.pointer (some t)) (.agg #[v])).run Tryz.prog W = .ok () (W.setCell t v) := by
  obtain ⟨tb, to, ts⟩ := t
  simp only at hs
  subst hs
  simp [Instr.storeAt, Instr.sureAddr, asAddr, isAgg, underlying, Tryz.underlying227, Result.andThen, storeVar, Value.cells, Pr.sizeF, Addr.add]
  simp [storeCells, Addr.add]
  rw [run_store Tryz.prog W _ _ _ h1]
  simp [ht, hf]
theorem cmp_ok (a b : ByteArray) (w : World) : Calls Tryz.prog 247 #[.string a, .string b] w fun e w' => e = .returned (.int .i64 (Lib.compareBytes a.data.toList b.data.toList)) ∧ w' = w := by
  have inner : ∀ w, Calls Tryz.prog 302 #[.string a, .string b] w fun e w' => e = .returned (.int .i64 (Lib.compareBytes a.data.toList b.data.toList)) ∧ w' = w := by
    intro w
    go_enter Tryz.func302, Tryz.ntmps302
    go_wp2
    rw [run_callFunc_extern Tryz.func351 (by kernel_rfl) (by kernel_rfl) (by kernel_rfl) (e := Extern.BytealgCompare.compare) (by kernel_rfl), Lib.run_compareString]
    simp only [Result.andThen]
    rw [Oper.upon_value]
    go_wp2
    go_ret
    exact ⟨rfl, rfl⟩
  go_enter Tryz.func247, Tryz.ntmps247
  go_wp2_with (go_at_call 302; refine (inner _).mono ?_; rintro e w' ⟨rfl, rfl⟩)
  go_ret
  exact ⟨rfl, rfl⟩
theorem two {M : Mem} {μ : Mu} {p q : PV} {vs : List Value} (hr : RepL M μ [p, q] vs) : ∃ x y, vs = [x, y] ∧ Rep M μ p x ∧ Rep M μ q y := by
  obtain ⟨x, l, rfl, hx, hl⟩ := hr.cons_inv
  obtain ⟨y, l, rfl, hy, hl⟩ := hl.cons_inv
  cases hl.nil_inv
  exact ⟨x, y, rfl, hx, hy⟩
theorem stay {M : Mem} {μ : Mu} {h : Hp} {w : World} (s : Sim M μ h w) {f : FuncId} {vs : List Value} {b : PV} {v : Value} (hv : Rep M μ b v) (hc : Calls Tryz.prog f vs.toArray w fun e w' => e = .returned v ∧ w' = w) (cs : List Frame) :
    ∃ M' μ' w' fr x, Sim M' μ' h w' ∧ Grow M μ w M' μ' w' ∧ Steps Tryz.prog (lone (Frame.enter Tryz.prog f vs.toArray .normal) cs w) (lone fr cs w') ∧ fr.fn = f ∧ Rep M' μ' b x ∧ fr.leaving Tryz.prog w' (.returned x) := by
  obtain ⟨w', fr, rfl, h1, h2, h3⟩ := prim_of hc cs
  exact ⟨M, μ, w', fr, v, s, .refl _ _ _, h1, h2, hv, h3⟩
theorem prim : PrimOK Tryz.prog := by
  intro f p hp args h v h' hd M μ w vs s ha cs
  simp only [Gl.pr, gl] at hp
  cases e1 : Nat.beq f 112 with
  | true =>
    have := Nat.eq_of_beq_eq_true e1; subst this
    rw [e1] at hp; cases hp
    rcases args with _ | ⟨e, _ | ⟨t, _ | ⟨_, _⟩⟩⟩ <;> try (cases hd; done)
    replace hd : (prAs Tryz.prog [(229, 227)] [627] e t h).map (fun (b, h) => (PV.bool b, h)) = some (v, h') := hd
    obtain ⟨x, y, rfl, hx, hy⟩ := two ha
    obtain ⟨⟨b, h1⟩, hd2, e0⟩ := mapOpt hd
    clear hd
    have hd := hd2; clear hd2
    cases e0
    have hg := s.mem _ _ (Gl.handle s.glb gl_et)
    unfold prAs at hd
    split at hd
    · cases hd; cases hx
      exact stay s (.bool _ _) (Pr.as_nil y w) cs
    · rename_i u a
      split at hd
      · rename_i pt id off
        split at hd
        · rename_i T hT
          obtain ⟨rfl, rfl⟩ : pt = 229 ∧ T = 227 := by
            unfold prTo at hT
            cases e3 : Nat.beq 229 pt with
            | true => rw [e3] at hT; cases hT; exact ⟨(Nat.eq_of_beq_eq_true e3).symm, rfl⟩
            | false => rw [e3] at hT; cases hT
          cases hx with
          | ifc _ _ _ xv hxv =>
            cases hy with
            | ifc _ _ _ yv hyv =>
              cases e4 : Nat.beq u 227 with
              | true =>
                have := Nat.eq_of_beq_eq_true e4; subst this
                rw [e4] at hd
                simp only [cond_true] at hd
                split at hd
                · rename_i c h2 hst
                  cases hd
                  obtain ⟨z, rfl, hz1, hz⟩ := rep_agg1 hxv
                  obtain ⟨tb, to, old, rfl, hold, hfz⟩ := store_at s hst hyv
                  obtain ⟨w', fr, rfl, q1, q2, q3⟩ := prim_of (Pr.as_hit z ⟨tb, to, none⟩ old w hz1 hg.2 rfl hold hfz) cs
                  obtain ⟨M1, s1, g1⟩ := s.junk #[.pointer (some ⟨tb, to, none⟩)] 229
                  obtain ⟨M2, s2, g2⟩ := s1.junk #[Pr.hd 229, .pointer (some ⟨w.heap.size, 0, none⟩), .int .u64 150] 306
                  obtain ⟨M3, s3, g3⟩ := s2.junk #[Pr.hd 229, .pointer (some ⟨w.heap.size, 0, none⟩), .int .u64 150] 306
                  obtain ⟨M4, s4, g4⟩ := s3.junk #[z] 227
                  have g := (g1.trans g2).trans (g3.trans g4)
                  have hS := store_ok (P := Tryz.prog) s4 (hyv.mono g.m g.u) (hxv.mono g.m g.u) hst
                  obtain ⟨b', o', old', e5, hold', hfz'⟩ := store_at s4 hst (hyv.mono g.m g.u)
                  cases e5
                  have hrun := run_storeF ⟨tb, to, none⟩ z old' _ hz1 rfl hold' hfz'
                  obtain ⟨M5, μ5, w5, hres, s5, g5⟩ := hS
                  simp only [Sem.run_bind, hrun, Result.andThen, Sem.run_pure, Result.ok.injEq, true_and] at hres
                  subst hres
                  exact ⟨M5, μ5, _, fr, .bool true, s5, g.trans g5, q1, q2, .bool _ _, q3⟩
                · cases hd
              | false =>
                rw [e4] at hd
                simp only [cond_false] at hd
                replace hd := bifT hd
                obtain ⟨hpl, hd⟩ := hd
                cases hd
                have hu : u = 627 := by
                  simp only [List.any_cons, List.any_nil, Bool.or_false] at hpl
                  exact Nat.eq_of_beq_eq_true hpl
                subst hu
                obtain ⟨tb, rfl⟩ : ∃ tb, yv = .pointer (some tb) := by cases hyv; exact ⟨_, rfl⟩
                obtain ⟨w', fr, rfl, q1, q2, q3⟩ := prim_of (Pr.as_plain xv tb w hg.2) cs
                obtain ⟨M1, s1, g1⟩ := s.junk #[.pointer (some tb)] 229
                obtain ⟨M2, s2, g2⟩ := s1.junk #[Pr.hd 229, .pointer (some ⟨w.heap.size, 0, none⟩), .int .u64 150] 306
                obtain ⟨M3, s3, g3⟩ := s2.junk #[Pr.hd 229, .pointer (some ⟨w.heap.size, 0, none⟩), .int .u64 150] 306
                exact ⟨M3, μ, _, fr, .bool false, s3, (g1.trans g2).trans g3, q1, q2, .bool _ _, q3⟩
        · cases hd
      · cases hd
    · cases hd
  | false =>
    rw [e1] at hp
    simp only [cond_false] at hp
    cases e2 : Nat.beq f 113 with
    | true =>
      have := Nat.eq_of_beq_eq_true e2; subst this
      rw [e2] at hp; cases hp
      rcases args with _ | ⟨e, _ | ⟨t, _ | ⟨_, _⟩⟩⟩ <;> try (cases hd; done)
      replace hd : (prIs [627] e t).map (fun b => (PV.bool b, h)) = some (v, h') := hd
      obtain ⟨x, y, rfl, hx, hy⟩ := two ha
      obtain ⟨b, hd2, hh⟩ := mapOpt hd
      clear hd
      have hd := hd2; clear hd2
      cases hh
      unfold prIs at hd
      split at hd <;> try (cases hd; done)
      rename_i u a v b
      replace hd := bifT hd
      obtain ⟨hc, hd⟩ := hd
      cases hd
      simp only [Bool.and_eq_true, List.any_cons, List.any_nil, Bool.or_false] at hc
      obtain ⟨⟨e5, e6⟩, e7⟩ := hc
      cases Nat.eq_of_beq_eq_true e5; cases Nat.eq_of_beq_eq_true e6; cases Nat.eq_of_beq_eq_true e7
      cases hx with
      | ifc _ _ _ xv hxv => cases hy with
        | ifc _ _ _ yv hyv => cases hxv with
          | gk _ _ t1 a1 k1 => cases hyv with
            | gk _ _ t2 a2 k2 =>
              rw [k1] at k2; cases k2
              exact stay s (.bool _ _) (Pr.is_same a1 w) cs
    | false =>
      rw [e2] at hp
      simp only [cond_false] at hp
      cases e3 : Nat.beq f 247 with
      | true =>
        have := Nat.eq_of_beq_eq_true e3; subst this
        rw [e3] at hp; cases hp
        rcases args with _ | ⟨e, _ | ⟨t, _ | ⟨_, _⟩⟩⟩ <;> try (cases hd; done)
        replace hd : (prCmp e t).map (fun n => (PV.int .i64 n, h)) = some (v, h') := hd
        obtain ⟨n, hd2, hh⟩ := mapOpt hd
        clear hd
        cases hh
        unfold prCmp at hd2
        split at hd2 <;> try (cases hd2; done)
        cases hd2
        obtain ⟨x, y, rfl, hx, hy⟩ := two ha
        cases hx with
        | str _ x => cases hy with
          | str _ y => exact stay s (by rw [compareBytes_eq]; exact .int _ _ _) (cmp_ok x y w) cs
      | false => rw [e3] at hp; cases hp
/-- the two variables hold what they must -/
theorem glw {w : World} {a : Addr} (h0 : w.cell? ⟨0, 0, none⟩ = some (.iface 627 (.pointer (some a)))) (h1 : w.cell? ⟨1, 0, none⟩ = some (.iface 372 (.agg #[.pointer (some ⟨5, 169, none⟩)]))) : GlW w := by
  refine glw_of fun g cs e j c hj => ?_
  simp only [Gl.g, gl] at e
  cases e1 : Nat.beq g 0 with
  | true =>
    have := Nat.eq_of_beq_eq_true e1; subst this
    rw [e1] at e; cases e
    match j, hj with
    | 0, hj =>
      cases hj
      exact ⟨_, h0, rfl, .ifc _ _ _ _ (.gk _ _ _ a (by unfold memOf; simpa using h0))⟩
  | false =>
    rw [e1] at e
    simp only [cond_false] at e
    cases e2 : Nat.beq g 1 with
    | true =>
      have := Nat.eq_of_beq_eq_true e2; subst this
      rw [e2] at e; cases e
      match j, hj with
      | 0, hj =>
        cases hj
        refine ⟨_, h1, rfl, .ifc _ _ _ _ (.agg _ _ _ rfl ?_ ?_)⟩
        · intro i v hv
          match i, hv with
          | 0, hv => cases hv; rfl
        · intro i c v hc hv
          match i, hc, hv with
          | 0, hc, hv => cases hc; cases hv; exact .adr _ _ _
    | false => rw [e2] at e; cases e
end Go.Proofs.YtfecnejgdafbcaaGreatDoor.Gv
