/- A part of the evaluator of the model's code and of its soundness, for any program. No condition. -/
import Derived.Test.YtfecnejgdafbcaaGreatDoorPiT
namespace Go.Proofs.YtfecnejgdafbcaaGreatDoor.Pi
set_option linter.all false
variable [Gl]
section
variable {P : Program} {M : Mem} {μ : Mu} {h : Hp} {w : World}

/-! Panics and modes. -/
def ChRep (M : Mem) (μ : Mu) : List PE → List PanicEntry → Prop
  | [], [] => True
  | e :: l, p :: m => Rep M μ e.v p.v ∧ e.recovered = p.recovered ∧ p.goexit = false ∧ ChRep M μ l m
  | _, _ => False
theorem ChRep.mono {M' : Mem} {μ' : Mu} (hM : MLe M M') (hμ : MuLe μ μ') : ∀ {l : List PE} {m : List PanicEntry}, ChRep M μ l m → ChRep M' μ' l m
  | [], [], _ => trivial
  | _ :: _, _ :: _, ⟨a, b, c, d⟩ => ⟨a.mono hM hμ, b, c, d.mono hM hμ⟩
def UMRep (M : Mem) (μ : Mu) : UM → FrameMode → Prop
  | .ret, m => m = .returning
  | .pan ch, m => ∃ chain, m = .panicking chain ∧ ChRep M μ ch chain
theorem UMRep.mono {M' : Mem} {μ' : Mu} (hM : MLe M M') (hμ : MuLe μ μ') {u : UM} {m : FrameMode} (hr : UMRep M μ u m) : UMRep M' μ' u m := by
  cases u with
  | ret => exact hr
  | pan ch => obtain ⟨chain, h1, h2⟩ := hr; exact ⟨chain, h1, h2.mono hM hμ⟩
/-- the callers of a frame, and how it was called -/
def UpRep (M : Mem) (μ : Mu) (kind : CallKind) (cs : List Frame) : Option UM → Prop
  | none => kind = .normal
  | some u => kind = .deferred ∧ ∃ c tl, cs = c :: tl ∧ UMRep M μ u c.mode
def RoRep (μ : Mu) (ro : Option Nat) (r : Option Nat) : Prop := match ro with
  | none => r = none
  | some l => ∃ rb, μ l = some rb ∧ r = some rb.b
structure FrRep (M : Mem) (μ : Mu) (fr : Fr) (b : Frame) (a : Act) (cs : List Frame) : Prop where
  t : TmpsRep M μ fr.t fr.nt a.tmps
  d : DefsRep M μ fr.ds a.defers
  u : UpRep M μ b.kind cs fr.up
  r : RoRep μ fr.ro b.roundOf
/-- the same callers, but for the mode of the first -/
def Tail (kd : CallKind) (cs cs' : List Frame) : Prop := cs' = cs ∨ (kd = .deferred ∧ ∃ c tl m, cs = c :: tl ∧ cs' = { c with mode := m } :: tl)
theorem Tail.refl {kd : CallKind} (cs : List Frame) : Tail kd cs cs := .inl rfl
theorem Tail.trans {kd : CallKind} {a b c : List Frame} (h : Tail kd a b) (k : Tail kd b c) : Tail kd a c := by
  rcases h with rfl | ⟨hk, x, tl, m, rfl, rfl⟩
  · exact k
  · rcases k with rfl | ⟨_, y, tl', m', h1, rfl⟩
    · exact .inr ⟨hk, x, tl, m, rfl, rfl⟩
    · cases h1; exact .inr ⟨hk, x, tl, m', rfl, rfl⟩
theorem FrRep.mono {M' : Mem} {μ' : Mu} {fr : Fr} {b : Frame} {a : Act} {cs : List Frame} (hr : FrRep M μ fr b a cs) (hM : MLe M M') (hμ : MuLe μ μ') : FrRep M' μ' fr b a cs where
  t := hr.t.mono hM hμ
  d := hr.d.mono hM hμ
  u := by
    have := hr.u
    cases hu : fr.up with
    | none => rw [hu] at this; exact this
    | some u => rw [hu] at this; obtain ⟨h1, c, tl, h2, h3⟩ := this; exact ⟨h1, c, tl, h2, h3.mono hM hμ⟩
  r := by
    have := hr.r
    unfold RoRep at this ⊢
    cases hu : fr.ro with
    | none => rw [hu] at this; exact this
    | some l => rw [hu] at this; obtain ⟨rb, h1, h2⟩ := this; exact ⟨rb, hμ _ _ h1, h2⟩

/-- where the machine is, by how the code was left -/
def Arr (P : Program) (m : Machine) (b : Frame) (k : List Item) (cs : List Frame) (a : Act) (w : World) (M : Mem) (μ : Mu) : Ex → Prop
  | .normal => Steps P m (lone (b.atR a k) cs w)
  | .exit id => ∃ k1, exitTo id k1 = exitTo id k ∧ Steps P m (lone (b.atR a (.code (.exit id) :: k1)) cs w)
  | .goto l => ∃ k1, gotoIn l k1 = gotoIn l k ∧ Steps P m (lone (b.atR a (.code (.goto l) :: k1)) cs w)
  | .ret => ∃ k1, Steps P m (lone (b.atR a (.code .ret :: k1)) cs w)
  | .panic v => ∃ todo x, Rep M μ v x ∧ Steps P m (lone { b.atR a todo with mode := .panicking [{ v := x, recovered := false }] } cs w)
theorem Arr.of_steps {m m1 : Machine} {b : Frame} {k : List Item} {cs : List Frame} {a : Act} {e : Ex} (hs : Steps P m m1) (ha : Arr P m1 b k cs a w M μ e) : Arr P m b k cs a w M μ e := by
  cases e with
  | normal => exact hs.trans ha
  | exit id => obtain ⟨k1, h1, h2⟩ := ha; exact ⟨k1, h1, hs.trans h2⟩
  | goto id => obtain ⟨k1, h1, h2⟩ := ha; exact ⟨k1, h1, hs.trans h2⟩
  | ret => obtain ⟨k1, h2⟩ := ha; exact ⟨k1, hs.trans h2⟩
  | panic v => obtain ⟨k1, x, h1, h2⟩ := ha; exact ⟨k1, x, h1, hs.trans h2⟩
/-- code was run -/
def Ran (P : Program) (M : Mem) (μ : Mu) (w : World) (m : Machine) (b : Frame) (k : List Item) (cs : List Frame) (e : Ex) (fr' : Fr) (h' : Hp) : Prop :=
  ∃ M' μ' w' a' cs', Sim M' μ' h' w' ∧ Grow M μ w M' μ' w' ∧ FrRep M' μ' fr' b a' cs' ∧ Tail b.kind cs cs' ∧ Arr P m b k cs' a' w' M' μ' e

/-- what a call comes to -/
def OutN (P : Program) (M : Mem) (μ : Mu) (fr : Frame) (w : World) : Out → Prop
  | .ret v => ∃ x, Rep M μ v x ∧ fr.leaving P w (.returned x)
  | .pan ch => ∃ chain, ChRep M μ ch chain ∧ fr.leaving P w (.panicked chain)
def OutD (P : Program) (M : Mem) (μ : Mu) (fr : Frame) (w : World) : Out → Prop
  | .ret v => ∃ x, Rep M μ v x ∧ fr.going P w (.returned x)
  | .pan ch => ∃ chain, ChRep M μ ch chain ∧ fr.going P w (.panicked chain)
structure RecOK (P : Program) (rec : Rec) : Prop where
  nrm : ∀ {f args h o up' h'}, rec (.fn f) none args h = some (o, up', h') → ∀ {M μ w vs}, Sim M μ h w → RepL M μ args vs → ∀ cs, ∃ M' μ' w' fr,
    Sim M' μ' h' w' ∧ Grow M μ w M' μ' w' ∧ Steps P (lone (Frame.enter P f vs.toArray .normal) cs w) (lone fr cs w') ∧ fr.fn = f ∧ OutN P M' μ' fr w' o
  dfr : ∀ {f u args h o up' h'}, rec (.fn f) (some u) args h = some (o, up', h') → ∀ {M μ w vs}, Sim M μ h w → RepL M μ args vs → ∀ c cs, UMRep M μ u c.mode → ∃ M' μ' w' fr m' u',
    Sim M' μ' h' w' ∧ Grow M μ w M' μ' w' ∧ Steps P (lone (Frame.enter P f vs.toArray .deferred) (c :: cs) w) (lone fr ({ c with mode := m' } :: cs) w') ∧ up' = some u' ∧ UMRep M' μ' u' m' ∧ fr.kind = .deferred ∧ OutD P M' μ' fr w' o
  yld : ∀ {l args h o up' h'}, rec (.yl l) none args h = some (o, up', h') → ∀ {M μ w vs r}, Sim M μ h w → RepL M μ args vs → μ l = some r → ∀ c cs, ∃ M' μ' w' x v fn tmps asg body,
    o = .ret v ∧ (Instr.yield r.b vs.toArray).run P w = .ok (.round r.b fn tmps asg body) w ∧ Sim M' μ' h' w' ∧ Grow M μ w M' μ' w' ∧ Rep M' μ' v x ∧
    Steps P (lone (Frame.round r.b fn tmps asg body .normal) (c :: cs) w) (lone (c.finish x) cs w')

/-- the functions that are answered as a whole -/
def PrimOK (P : Program) : Prop := ∀ (f : FuncId) (p : Pr), Gl.pr f = some p → ∀ (args : List PV) (h : Hp) (v : PV) (h' : Hp), prDo P p args h = some (v, h') →
  ∀ (M : Mem) (μ : Mu) (w : World) (vs : List Value), Sim M μ h w → RepL M μ args vs → ∀ cs, ∃ M' μ' w' fr x, Sim M' μ' h' w' ∧ Grow M μ w M' μ' w' ∧
    Steps P (lone (Frame.enter P f vs.toArray .normal) cs w) (lone fr cs w') ∧ fr.fn = f ∧ Rep M' μ' v x ∧ fr.leaving P w' (.returned x)
theorem primOK_none (P : Program) (h : ∀ f, Gl.pr f = none) : PrimOK P := fun f p e => by rw [h] at e; cases e
/-- what the package-level variables hold in a world -/
def GlW (w : World) : Prop := ∃ M0 : Mem, GlOK M0 ∧ ∀ (a : Addr) (v : Value), M0 a = some v → a.spot = none ∧ w.cell? a = some v
theorem GlW.none (h : ∀ g, Gl.g g = none) (w : World) : GlW w := ⟨fun _ => Option.none, (fun g cs e => by rw [h] at e; cases e), fun a v e => by cases e⟩
theorem GlW.sim {w : World} (h : GlW w) : ∃ M0 : Mem, Sim M0 mu0 { m := .lf, nx := 0 } w := by
  obtain ⟨M0, h1, h2⟩ := h
  refine ⟨M0, h1, h2, fun id b hb => ?_, fun id r hr => ?_, fun id id' r r' b b' hr => ?_, fun id r b a v hb => ?_⟩
  · cases hb
  · simp [mu0] at hr
  · simp [mu0] at hr
  · cases hb

theorem tmps_put {t : T PV} {nt d : Nat} {tmps : Array Value} {v : PV} {x : Value} (ht : TmpsRep M μ t nt tmps) (hd : d < nt) (hr : Rep M μ v x) : TmpsRep M μ (T.put 20 t d v) nt (tmps.setIfInBounds d x) := by
  obtain ⟨h1, h2, h3⟩ := ht
  refine ⟨h1, by simp [h2], fun k => ?_⟩
  rw [T.get_put 20 t d v k (by have : (2 : Nat) ^ 20 - 1 = 1048575 := by decide
                               omega)]
  by_cases hk : k = d
  · subst hk
    rw [if_pos rfl]
    have : (tmps.setIfInBounds k x).getD k undef = x := by simp [Array.getD_eq_getD_getElem?, h2, hd]
    rw [this]; exact hr
  · rw [if_neg hk]
    have : (tmps.setIfInBounds d x).getD k undef = tmps.getD k undef := by
      simp only [Array.getD_eq_getD_getElem?, Array.getElem?_setIfInBounds, if_neg (Ne.symm hk)]
    rw [this]; exact h3 k
theorem FrRep.put {fr fr' : Fr} {b : Frame} {a : Act} {cs : List Frame} {dst : Option Nat} {v : PV} {x : Value} (hr : FrRep M μ fr b a cs) (hv : Rep M μ v x) (e : fr.put dst v = some fr') : FrRep M μ fr' b (a.put dst x) cs := by
  unfold Fr.put at e
  split at e
  · cases e; exact hr
  · replace e := bifT e; obtain ⟨hd, e⟩ := e
    cases e
    exact ⟨tmps_put hr.t (by simpa using hd) hv, hr.d, hr.u, hr.r⟩
theorem rep_undef (M : Mem) (μ : Mu) : Rep M μ (.tup []) undef := .tup _ _ _ rfl fun i c v hc => by simp at hc

theorem wanted_ok {ops : Array Oper} {t : T PV} {nt : Nat} {tmps : Array Value} (ht : TmpsRep M μ t nt tmps) (o : Oper) : Region.wanted o (yielded ops tmps) = wantedP ops.toList t o.guard := by
  unfold Region.wanted wantedP
  cases hg : o.guard with
  | none => rfl
  | some g =>
    obtain ⟨j, want⟩ := g
    simp only [yielded, lget_eq, Array.getElem?_toList]
    cases hj : ops[j]? with
    | none => simp
    | some oj =>
      simp only [Option.bind_some]
      cases hd : oj.dst with
      | none => simp
      | some d =>
        simp only [Option.bind_some]
        have h3 := ht.2.2 d
        rw [Array.getD_eq_getD_getElem?] at h3
        cases hx : tmps[d]? with
        | none =>
          rw [hx] at h3
          simp only [Option.getD_none] at h3
          cases hp : t.get d with
          | none => simp
          | some p =>
            rw [hp] at h3
            simp only [Option.getD_some] at h3
            cases h3; simp
        | some x =>
          rw [hx] at h3
          simp only [Option.getD_some] at h3
          cases hp : t.get d with
          | none =>
            rw [hp] at h3
            simp only [Option.getD_none] at h3
            cases h3; simp
          | some p =>
            rw [hp] at h3
            simp only [Option.getD_some] at h3
            cases h3 <;> simp
end
end Go.Proofs.YtfecnejgdafbcaaGreatDoor.Pi
