/- A part of the evaluator over typed open values for any program, and of the proof that it is sound. No condition. -/
import Derived.Test.YtopoaknleakdcaaGreatPs2
set_option linter.unusedVariables false
namespace Go.Proofs.YtopoaknleakdcaaGreat.Sv
open Go.Proofs.YtopoaknleakdcaaGreat.Pi (PV T Hp Blk DF UM PE lget_eq lset_eq mapPur pur purl)
def PX (P : Program) (tab : Tab) (c : Code) (fp : Pi.Fr) (h : Hp) (r : Pi.Ex × Pi.Fr × Hp) : Prop :=
  ∃ N, ∀ m F n, N ≤ m → N ≤ F → N ≤ n → Pi.exec P (shOf tab) (Pi.doN P (shOf tab) F n) m c fp h = some r
/-- what code comes to -/
def XOk (P : Program) (tab : Tab) (b bP : Nat) (c : Code) (X : Cx) (h : H) (nx : Nat) (fp : Pi.Fr) {β : Type} (K : KA β) (x : β) : Prop :=
  ∃ ex fr' h' nx' Y exP fp' hP', K ex fr' h' nx' = some x ∧ PX P tab c fp X.h (exP, fp', hP') ∧ Run b bP X h nx Y h' nx' hP' ∧ FR Y fr' fp' ∧ ExR Y ex exP
def Cx.bump (X : Cx) (k : Nat) : Cx := { X with h := { X.h with nx := X.h.nx + k } }
theorem bump_get (X : Cx) (k q : Nat) : (X.bump k).h.get q = X.h.get q := rfl
theorem bump_up (X : Cx) (k : Nat) : Up X (X.bump k) := ⟨fun _ _ h => h, fun _ _ _ fz h k => ⟨⟨fz, k⟩, h⟩⟩
theorem RH.bump {X : Cx} {h : H} {n : Nat} (r : RH X h n) (k : Nat) : RH (X.bump k) h (n + k) :=
  ⟨fun i c hi => (r.blk i c hi).keep (bump_up X k) fun _ _ _ hO => ⟨rfl, hO⟩, r.inj, fun i a hi => Nat.lt_of_lt_of_le (r.dom i a hi) (Nat.le_add_right _ _), fun q hq => r.fresh q (by have : X.h.nx + k ≤ q := hq; omega), r.ob⟩
theorem bump_ext (X : Cx) (h : H) (k b bP : Nat) : Ext b bP X h (X.bump k) h :=
  ⟨(Up.low X b).trans (bump_up X k), fun _ _ h => h, fun _ _ h => h, Nat.le_add_right _ _, fun _ _ h _ => h, fun _ st pe _ _ _ _ _ _ h => ⟨st, pe, h⟩⟩
structure DrawnAOK (P : Program) (tab : Tab) : Prop where
  go : ∀ {β : Type} {x : β} {nx : Nat} {ops : List Oper} {fr : FrA} {h : H} {K : FrA → H → Option β}, drawnA P tab nx ops fr h K = some x → ∀ {X : Cx} {fp : Pi.Fr}, RH X h nx → nx + ops.length ≤ 1048575 → FR X fr fp → (∀ o ∈ ops, ∀ d, o.dst = some d → d < fr.nt) →
    ∃ fr' h' Y fp' hP', K fr' h' = some x ∧ (∃ N, ∀ F n, N ≤ F → N ≤ n → Pi.drawn P (Pi.doN P (shOf tab) F n) X.h.nx ops fp (X.bump ops.length).h = some (fp', hP')) ∧ (∀ b bP, b ≤ nx → bP ≤ X.h.nx → Run b bP X h nx Y h' (nx + ops.length) hP') ∧ FR Y fr' fp'
theorem distinct_nodup : ∀ {l : List Nat}, distinct l = true → l.Nodup
  | [], _ => .nil
  | a :: l, h => by
    simp only [distinct, Bool.and_eq_true, Bool.not_eq_true', List.any_eq_false] at h
    refine List.nodup_cons.2 ⟨fun hm => ?_, distinct_nodup h.2⟩
    exact h.1 a hm (by simp)
section
variable {P : Program} {tab : Tab} {ann : Ann} {f : FuncId} {rec : RecA}
/-- a kept base of a loop, against a world -/
structure KB (X : Cx) (h : H) (n0 : Nat) (kb : List Nat) (h0 : H) : Prop where
  go : ∀ i c, h0.get i = some c → i ∈ kb ∧ i < n0 ∧ (∃ d, h.get i = some d ∧ d.live) ∧ BR (X.low n0) c (X.π i)
theorem KB.linv {X : Cx} {h h0 : H} {n n0 : Nat} {kb : List Nat} (k : KB X h n0 kb h0) (r : RH X h n) : LInv X h n0 (X.low n0) kb h0 n0 := by
  refine ⟨rfl, rfl, fun i hi => Cx.low_eq hi, fun i hi => Cx.low_ge (by omega), Nat.le_refl _, fun i c hi => ?_, fun i i' c c' p m m' hi hi' a1 a2 => ?_, fun i c p m hi a1 => ?_⟩
  · obtain ⟨_, h2, _, h4⟩ := k.go i c hi
    rw [Cx.low_eq h2]; exact ⟨h4, h2⟩
  · obtain ⟨_, h2, ⟨d, h3, h5⟩, _⟩ := k.go i c hi
    obtain ⟨_, k2, ⟨d', k3, k5⟩, _⟩ := k.go i' c' hi'
    rw [Cx.low_eq h2] at a1; rw [Cx.low_eq k2] at a2
    exact r.inj _ _ _ _ _ _ _ h3 k3 h5 k5 a1 a2
  · obtain ⟨h1, h2, ⟨d, h3, h5⟩, _⟩ := k.go i c hi
    rw [Cx.low_eq h2] at a1
    exact ⟨i, h1, d, m, h3, h5, a1⟩
theorem BR.lock {X : Cx} {c : BA} {a : Option At} (h : BR X c a) : BR X (lockB c) a := by cases c <;> exact h
theorem BR.unlock {X : Cx} {c : BA} {a : Option At} (h : BR X (lockB c) a) : BR X c a := by cases c <;> exact h
theorem KB.entry {X : Cx} {h : H} {n : Nat} {kb : List Nat} {g : BA → BA} (r : RH X h n) (hn : n ≤ 1048575) (hkb : ∀ i ∈ kb, i < n) (hg : ∀ c, g c = lockB c ∨ g c = c) : KB X h n kb (keepH h g kb) := by
  refine ⟨fun i c hi => ?_⟩
  obtain ⟨h1, d, h2, rfl, h3⟩ := keepH_get (fun j hj => by have := hkb j hj; omega) hi
  refine ⟨h1, hkb i h1, ⟨d, h2, h3⟩, ?_⟩
  have hb : BR (X.low n) d (X.π i) := (r.blk _ _ h2).keep (Up.toLow r (Nat.le_refl _)) fun _ _ _ hO => ⟨rfl, hO⟩
  rcases hg d with e | e
  · rw [e]; exact hb.lock
  · rw [e]; exact hb
theorem lpsOk_get {h : H} : ∀ {l : List (Nat × Nat × Option Code)}, lpsOk h l = true → ∀ i st pd, (i, st, pd) ∈ l → ∃ nt t ps asg body d, h.get i = some (.lp st pd nt t ps asg body d)
  | [], _, _, _, _, hm => by cases hm
  | (j, st', pd') :: l, hl, i, st, pd, hm => by
    simp only [lpsOk, Bool.and_eq_true] at hl
    rcases List.mem_cons.1 hm with e | hm
    · simp only [Prod.mk.injEq] at e
      obtain ⟨e1, e2, e3⟩ := e
      subst e1; subst e2; subst e3
      have h1 := hl.1
      split at h1
      · rename_i st2 pd2 nt t ps asg body d hg
        simp only [Bool.and_eq_true] at h1
        have e1 := Nat.eq_of_beq_eq_true h1.1
        have e2 : pd = pd2 := by
          have h2 := h1.2
          split at h2
          · rfl
          · rfl
          · rw [Nat.eq_of_beq_eq_true h2]
          · rw [Nat.eq_of_beq_eq_true h2]
          · cases h2
        subst e1; subst e2
        exact ⟨nt, t, ps, asg, body, d, hg⟩
      · cases h1
    · exact lpsOk_get hl.2 i st pd hm
theorem lpsOf_mem {h : H} {i st nt d : Nat} {pd : Option Code} {t : T V} {ps : List Nat} {asg body : Code} : ∀ {l : List Nat}, i ∈ l → h.get i = some (.lp st pd nt t ps asg body d) → (i, st, pd) ∈ lpsOf h l
  | j :: l, hm, hg => by
    rcases List.mem_cons.1 hm with rfl | hm
    · simp [lpsOf, hg]
    · have := lpsOf_mem hm hg
      unfold lpsOf
      split
      · exact List.mem_cons_of_mem _ this
      · exact this
theorem dfIds_mem {h : H} {i : Nat} {ds : Option (List DFA)} : ∀ {l : List Nat}, i ∈ l → h.get i = some (.df ds) → i ∈ dfIds h l
  | j :: l, hm, hg => by
    rcases List.mem_cons.1 hm with rfl | hm
    · simp [dfIds, hg]
    · have := dfIds_mem hm hg
      unfold dfIds
      split
      · exact List.mem_cons_of_mem _ this
      · exact this
theorem dfsOk_get {h : H} {i : Nat} {ds : Option (List DFA)} : ∀ {l : List Nat}, dfsOk h l = true → i ∈ l → h.get i = some (.df ds) → ds = some []
  | j :: l, hl, hm, hg => by
    simp only [dfsOk, Bool.and_eq_true] at hl
    rcases List.mem_cons.1 hm with rfl | hm
    · have h1 := hl.1
      rw [hg] at h1
      cases ds with
      | none => cases h1
      | some l => cases l with
        | nil => rfl
        | cons => cases h1
    · exact dfsOk_get hl.2 hm hg
theorem dfsAre_get {h : H} : ∀ {l : List Nat} {i : Nat}, dfsAre h l = true → i ∈ l → h.get i = some (.df (some []))
  | j :: l, i, hl, hm => by
    simp only [dfsAre, Bool.and_eq_true] at hl
    rcases List.mem_cons.1 hm with rfl | hm
    · have h1 := hl.1
      split at h1
      · assumption
      · cases h1
    · exact dfsAre_get hl.2 hm
theorem BR.lowOf {X Y : Cx} {b : Nat} {c : BA} {a a' : Option At} (k : BR (X.low b) c a') (h : BR Y c a) : BR (Y.low b) c a := by
  cases c with
  | box cs fz lk =>
    obtain ⟨pid, n, ps, fz', h1, h2, h3, h4, h5⟩ := h
    obtain ⟨_, _, ps', _, _, _, _, _, k5⟩ := k
    exact ⟨pid, n, ps, fz', h1, h2, h3, h4, VRL.lowOf k5 h5⟩
  | row g c l ex fz lk => exact h
  | mp kk g c l lk => exact h
  | lp st pend nt t ps asg body d =>
    obtain ⟨pid, n, tP, dP, m, h1, h2, h3, h4, h5, h6⟩ := h
    obtain ⟨_, _, tP', _, _, _, _, _, k4, k5, _⟩ := k
    refine ⟨pid, n, tP, dP, m, h1, h2, h3, fun i v hi => ?_, ?_, h6⟩
    · obtain ⟨p, hp, hv⟩ := h4 i v hi
      obtain ⟨q, _, kv⟩ := k4 i v hi
      exact ⟨p, hp, VR.lowOf kv hv⟩
    · by_cases hb : d < b
      · rw [Cx.low_eq hb]; exact h5
      · rw [Cx.low_ge hb] at k5; cases k5
  | df ds =>
    obtain ⟨pid, n, dsP, h1, h2, h3, h4⟩ := h
    obtain ⟨_, _, dsP', _, _, _, k4⟩ := k
    refine ⟨pid, n, dsP, h1, h2, h3, ?_⟩
    cases ds with
    | none =>
      cases dsP with
      | none => trivial
      | some => exact h4.elim
    | some l =>
      cases dsP with
      | none => exact h4.elim
      | some m =>
        cases dsP' with
        | none => exact k4.elim
        | some m' =>
          simp only at h4 k4 ⊢
          have go : ∀ {l : List DFA} {m m' : List DF}, L2 (DFR (X.low b)) l m' → L2 (DFR Y) l m → L2 (DFR (Y.low b)) l m := by
            intro l
            induction l with
            | nil => intro m m' _ h; rw [L2.nil_inv h]; exact .nil
            | cons x l ih =>
              intro m m' k h
              obtain ⟨y, t, rfl, h1, h2⟩ := L2.cons_inv h
              obtain ⟨y', t', rfl, k1, k2⟩ := L2.cons_inv k
              refine .cons ?_ (ih k2 h2)
              cases x with
              | call f args =>
                obtain ⟨fP, ps, e1, e2, e3⟩ := h1
                obtain ⟨fP', ps', _, g2, g3⟩ := k1
                exact ⟨fP, ps, e1, VR.lowOf g2 e2, VRL.lowOf g3 e3⟩
              | bi bb ats ty args =>
                obtain ⟨ps, e1, e3⟩ := h1
                obtain ⟨ps', _, g3⟩ := k1
                exact ⟨ps, e1, VRL.lowOf g3 e3⟩
              | col id =>
                obtain ⟨pid, n, e1, e2⟩ := h1
                obtain ⟨pid', n', g1, g2⟩ := k1
                refine ⟨pid, n, ?_, e2⟩
                by_cases hb : id < b
                · rw [Cx.low_eq hb]; exact e1
                · rw [Cx.low_ge hb] at g1; cases g1
          exact go k4 h4
  | dead => trivial
theorem low_ext {Z Y : Cx} {h1 h' : H} {n0 b bP : Nat} (hb : n0 ≤ b) (ext : Ext b bP Z h1 Y h') : Up (Z.low n0) (Y.low n0) := by
  refine ⟨fun i a hi => ?_, ext.up.rows⟩
  by_cases hn : i < n0
  · rw [Cx.low_eq hn] at hi ⊢
    exact ext.up.pi i a (by rw [Cx.low_eq (by omega)]; exact hi)
  · rw [Cx.low_ge hn] at hi; cases hi
/-- the block with the state that l gives it, where it is a loop's -/
def lpNow (l : List (Nat × Nat × Option Code)) (i : Nat) (c c' : BA) : Prop := match c with
  | .lp _ _ nt t ps asg body d => ∃ st pd, (i, st, pd) ∈ l ∧ c' = .lp st pd nt t ps asg body d
  | c => c' = c
/-- what is kept of a loop's heap h, in a world W -/
def Kept (X : Cx) (h : H) (kb : List Nat) (n0 : Nat) (l : List (Nat × Nat × Option Code)) (W : Cx) : Prop :=
  ∀ i c, h.get i = some c → i ∈ kb → c.live → W.π i = X.π i ∧ ∀ c', lpNow l i c c' → BR (W.low n0) c' (W.π i)
theorem kept_step {X Z Y : Cx} {h h1 h' : H} {n' n0 b bP : Nat} {kb : List Nat} (hdf : dfsOk h kb = true) (hkb : ∀ i ∈ kb, i < n0) (hK : Kept X h kb n0 (lpsOf h kb) Z)
    (h1k : ∀ i c, h.get i = some c → i ∈ kb → c.live → h1.get i = some (lockB c)) (hX : ∀ i c, h.get i = some c → c.live → ∃ a, X.π i = some a) (ext : Ext b bP Z h1 Y h') (hb : n0 ≤ b) (rY : RH Y h' n') (hd : dfsAre h' (dfIds h kb) = true) {l : List (Nat × Nat × Option Code)} (hl : lpsOk h' l = true) (hli : l.map (·.1) = (lpsOf h kb).map (·.1)) :
    Kept X h kb n0 l Y ∧ ∀ i c, h.get i = some c → i ∈ kb → c.live → ∃ d, h'.get i = some d ∧ d.live := by
  have up := low_ext hb ext
  have piY : ∀ i c, h.get i = some c → i ∈ kb → c.live → Y.π i = X.π i := fun i c hi hk hlv => by
    obtain ⟨a, ha⟩ := hX i c hi hlv
    obtain ⟨k1, _⟩ := hK i c hi hk hlv
    rw [ha] at k1 ⊢
    exact ext.up.pi i a (by rw [Cx.low_eq (by have := hkb i hk; omega)]; exact k1)
  have locked : ∀ i c, h.get i = some c → i ∈ kb → c.live → (lockB c).locked = true → lpNow (lpsOf h kb) i c c → h'.get i = some (lockB c) ∧ BR (Y.low n0) c (Y.π i) := fun i c hi hk hlv hlk hn => by
    have g := ext.lk i (lockB c) (h1k i c hi hk hlv) hlk
    refine ⟨g, ?_⟩
    have hY := (rY.blk _ _ g).unlock
    exact BR.lowOf ((hK i c hi hk hlv).2 c hn) hY
  refine ⟨fun i c hi hk hlv => ⟨piY i c hi hk hlv, fun c' hc' => ?_⟩, fun i c hi hk hlv => ?_⟩
  · cases c with
    | box cs fz lk => rw [show c' = _ from hc']; exact (locked i _ hi hk hlv rfl rfl).2
    | row g c x ex fz lk => rw [show c' = _ from hc']; exact (locked i _ hi hk hlv rfl rfl).2
    | mp k g c x lk => rw [show c' = _ from hc']; exact (locked i _ hi hk hlv rfl rfl).2
    | dead => exact hlv.elim
    | df ds =>
      rw [show c' = _ from hc']
      have := dfsOk_get hdf hk hi
      subst this
      have g := dfsAre_get hd (dfIds_mem hk hi)
      have hY := rY.blk _ _ g
      obtain ⟨pid, m, dsP, q1, q2, q3, q4⟩ := hY
      refine ⟨pid, m, dsP, q1, q2, q3, ?_⟩
      cases dsP with
      | none => exact q4
      | some mm => rw [show mm = [] from L2.nil_inv q4]; exact .nil
    | lp st0 pd0 nt t ps asg body d =>
      obtain ⟨st, pd, hm, rfl⟩ := hc'
      obtain ⟨nt', t', ps', asg', body', d', g⟩ := lpsOk_get hl i st pd hm
      have hZ := (hK i _ hi hk hlv).2 (.lp st0 pd0 nt t ps asg body d) ⟨st0, pd0, lpsOf_mem hk hi, rfl⟩
      obtain ⟨pid, m, tP, dP, m2, z1, z2, z3, z4, z5, z6⟩ := hZ
      obtain ⟨st', pe', y3⟩ := ext.lps _ _ _ _ _ _ _ _ _ z3
      have hY := rY.blk _ _ g
      have hpi : Y.π i = some (.blk pid m) := by
        rw [piY i _ hi hk hlv, ← (hK i _ hi hk hlv).1]; exact z1
      rw [hpi] at hY
      obtain ⟨_, _, tP2, dP2, m3, w1, w2, w3, _, _, _⟩ := hY
      cases w1
      rw [y3] at w3
      cases w3
      rw [hpi]
      exact ⟨pid, m, tP, dP, m2, rfl, w2, y3, z4.mono up, up.pi _ _ z5, z6⟩
  · cases c with
    | box cs fz lk => exact ⟨_, (locked i _ hi hk hlv rfl rfl).1, trivial⟩
    | row g c x ex fz lk => exact ⟨_, (locked i _ hi hk hlv rfl rfl).1, trivial⟩
    | mp k g c x lk => exact ⟨_, (locked i _ hi hk hlv rfl rfl).1, trivial⟩
    | dead => exact hlv.elim
    | df ds => exact ⟨_, dfsAre_get hd (dfIds_mem hk hi), trivial⟩
    | lp st0 pd0 nt t ps asg body d =>
      have h0 := lpsOf_mem hk hi
      have : i ∈ (lpsOf h kb).map (·.1) := List.mem_map.2 ⟨_, h0, rfl⟩
      rw [← hli] at this
      obtain ⟨⟨i', st, pd⟩, hm, e⟩ := List.mem_map.1 this
      simp only at e; subst e
      obtain ⟨nt', t', ps', asg', body', d', g⟩ := lpsOk_get hl i' st pd hm
      exact ⟨_, g, trivial⟩
end
end Go.Proofs.YtopoaknleakdcaaGreat.Sv
namespace Go.Proofs.YtopoaknleakdcaaGreat.Sv
open Go.Proofs.YtopoaknleakdcaaGreat.Pi (PV T Hp Blk DF UM PE lget_eq lset_eq mapPur pur purl)
section
variable {P : Program} {tab : Tab} {β : Type} {x : β}
/-! Ends of a loop. -/
/-- e and k at the payload y are one end, in worlds that share memory -/
def ExIs (X : Cx) (e : ExA) (exP : Pi.Ex) (pay : Ty) (y : pay.den) (k : ExK) : Prop := ∀ Z : Cx, Z.h = X.h → Z.O = X.O → ExR Z (exOf pay y k) exP
theorem exOk_ok {X : Cx} {h : H} {e : ExA} {exP : Pi.Ex} {pay : Ty} {k : ExK} {K : pay.den → Option β} (hr : ExR X e exP) (hk : isEx e k = true) (eq : exOk h e pay k K = some x) : ∃ y, K y = some x ∧ ExIs X e exP pay y k := by
  cases k with
  | exit i =>
    cases e with
    | exit j =>
      replace eq := bifY eq; obtain ⟨hb, eq⟩ := eq
      have := Nat.eq_of_beq_eq_true hb; subst this
      exact ⟨_, eq, fun Z _ _ => hr⟩
    | _ => cases eq
  | ret =>
    cases e with
    | ret => exact ⟨_, eq, fun Z _ _ => hr⟩
    | _ => cases eq
  | pan t g c =>
    cases e with
    | panic v =>
      cases v with
      | ifc t' v =>
        replace eq := bifY eq; obtain ⟨hb, eq⟩ := eq
        have := Nat.eq_of_beq_eq_true hb; subst this
        split at eq
        · rename_i hc
          subst hc
          obtain ⟨p, rfl, hv⟩ := hr
          simp only [VR] at hv
          obtain ⟨q, rfl, hv⟩ := hv
          obtain ⟨y, e1, hE⟩ := decE0_ok hv eq
          refine ⟨y, e1, fun Z z1 z2 => ?_⟩
          have hx : exOf c y (.pan t g c) = .panic (.ifc t (elV g c y)) := dif_pos rfl
          rw [hx]
          refine ⟨_, rfl, ?_⟩
          simp only [VR]
          refine ⟨q, rfl, elV_ok ?_⟩
          have hQ : Z.Q = X.Q := by unfold Cx.Q; rw [z2]
          rw [z1, hQ]; exact hE
        · cases eq
      | _ => cases eq
    | _ => cases eq
theorem findEx_ok {X : Cx} {h : H} {ids : List Nat} {e : ExA} {exP : Pi.Ex} {pay : Ty} (hr : ExR X e exP) : ∀ {l : List (ExK × List (Nat × Nat × Option Code))} {i : Nat} {K : Nat → pay.den → Option β}, findEx h ids e pay i l K = some x →
    ∃ j k lp y, l[j]? = some (k, lp) ∧ lpsOk h lp = true ∧ lp.map (·.1) = ids ∧ K (i + j) y = some x ∧ ExIs X e exP pay y k
  | [], i, K, eq => by cases eq
  | (k, lp) :: l, i, K, eq => by
    unfold findEx at eq
    replace eq := bifT' eq
    rcases eq with ⟨hb, eq⟩ | ⟨hb, eq⟩
    · simp only [Bool.and_eq_true] at hb
      obtain ⟨y, e1, e2⟩ := exOk_ok hr hb.1 eq
      exact ⟨0, k, lp, y, rfl, hb.2.1, eq_of_beq hb.2.2, e1, e2⟩
    · obtain ⟨j, k', lp', y, h1, h2, h3, h4, h5⟩ := findEx_ok hr eq
      exact ⟨j + 1, k', lp', y, by simpa using h1, h2, h3, by rw [show i + (j + 1) = i + 1 + j from by omega]; exact h4, h5⟩
theorem selEx_ok {pay : Ty} {y : pay.den} : ∀ {l : List (ExK × List (Nat × Nat × Option Code))} {i j : Nat} {k : ExK} {lp : List (Nat × Nat × Option Code)} {K : ExA → List (Nat × Nat × Option Code) → Option β}, l[j]? = some (k, lp) → selEx pay y (i + j) i l K = some x → K (exOf pay y k) lp = some x
  | [], i, j, k, lp, K, hj, e => by cases e
  | [(k', lp')], i, j, k, lp, K, hj, e => by
    cases j with
    | zero => simp at hj; obtain ⟨rfl, rfl⟩ := hj; exact e
    | succ j => simp at hj
  | (k', lp') :: b :: l, i, j, k, lp, K, hj, e => by
    unfold selEx at e
    cases j with
    | zero =>
      simp at hj; obtain ⟨rfl, rfl⟩ := hj
      rcases br_some e with ⟨_, e⟩ | ⟨hb, e⟩
      · exact e
      · simp [neq] at hb
    | succ j =>
      rcases br_some e with ⟨hb, e⟩ | ⟨hb, e⟩
      · simp [neq] at hb
      · exact selEx_ok (i := i + 1) (j := j) (by simpa using hj) (by rw [show i + 1 + j = i + (j + 1) from by omega]; exact e)
theorem keepT_mem {t : T V} {l : List Nat} {W : Cx} {tP tP' : T PV} (hl : ∀ i ∈ l, i < 1048575) (h : TR W (keepT t l) tP) (same : ∀ k ∈ l, tP'.get k = tP.get k) : TR W (keepT t l) tP' := fun k v hk => by
  obtain ⟨p, h1, h2⟩ := h k v hk
  exact ⟨p, by rw [same k (keepT_get hl hk).1]; exact h1, h2⟩
/-- where a loop's round begins or ends -/
structure It (P : Program) (X : Cx) (h : H) (nx bP : Nat) (fr : FrA) (kb keep : List Nat) (pl : List Pl) (lp : List (Nat × Nat × Option Code)) (W : Cx) (fp : Pi.Fr) (s : plDen pl) : Prop where
  go : ∃ hW nW src, RH W hW nW ∧ Kept X h kb nx lp W ∧ (∀ i c, h.get i = some c → i ∈ kb → c.live → ∃ d, hW.get i = some d ∧ d.live) ∧ (src ++ kb).Nodup ∧
    ∀ {Y : Cx} {S : List Nat} {tc : T V} {hc : H} {nc : Nat}, LInv W hW nx Y S hc nc → TR Y tc fp.t → (src ++ S).Nodup → (layPls tc hc nc pl s).2.2 ≤ 1048575 →
      ∃ Z, Up Y Z ∧ LInv W hW nx Z (src ++ S) (layPls tc hc nc pl s).2.1 (layPls tc hc nc pl s).2.2 ∧ TR Z (layPls tc hc nc pl s).1 fp.t
  t : TR (W.low nx) (keepT fr.t keep) fp.t
  ds : L2 (DFR (W.low nx)) fr.ds fp.ds
  nt : fp.nt = fr.nt
  up : fp.up = none
  ro : ROR (W.low nx) fr.ro fp.ro
  ext : Ext nx bP X .lf W .lf
/-- a base whose blocks are kept ones -/
def BaseOf (h : H) (kb : List Nat) (lp : List (Nat × Nat × Option Code)) (h0 : H) : Prop := ∀ i c, h0.get i = some c → i ∈ kb ∧ ∃ d, h.get i = some d ∧ d.live ∧ (lpNow lp i d c ∨ ∃ c', lpNow lp i d c' ∧ c = lockB c')
theorem It.lay {X : Cx} {h h0 : H} {nx bP : Nat} {fr : FrA} {kb keep : List Nat} {pl : List Pl} {lp : List (Nat × Nat × Option Code)} {W : Cx} {fp : Pi.Fr} {s : plDen pl} (I : It P X h nx bP fr kb keep pl lp W fp s) (hbig : fr.nt < 1048575) (hup : fr.up = none) (hkb : ∀ i ∈ kb, i < nx) (hb : BaseOf h kb lp h0)
    (hn : (layPls (keepT fr.t keep) h0 nx pl s).2.2 ≤ 1048575) :
    ∃ Z, Z.h = W.h ∧ RH Z (layPls (keepT fr.t keep) h0 nx pl s).2.1 (layPls (keepT fr.t keep) h0 nx pl s).2.2 ∧ FR Z { fr with t := (layPls (keepT fr.t keep) h0 nx pl s).1 } fp ∧ Up (W.low nx) Z ∧ (∀ i, i < nx → Z.π i = W.π i) ∧ Z.O = W.O ∧ nx ≤ (layPls (keepT fr.t keep) h0 nx pl s).2.2 := by
  obtain ⟨hW, nW, src, r, hK, hliv, hnd, hlay⟩ := I.go
  have kbk : KB W hW nx kb h0 := ⟨fun i c hi => by
    obtain ⟨h1, d, h2, h3, h4⟩ := hb i c hi
    refine ⟨h1, hkb i h1, hliv i d h2 h1 h3, ?_⟩
    obtain ⟨_, k2⟩ := hK i d h2 h1 h3
    rcases h4 with h4 | ⟨c', h4, rfl⟩
    · exact k2 c h4
    · exact (k2 c' h4).lock⟩
  obtain ⟨Z, z1, z2, z3⟩ := hlay (kbk.linv r) I.t hnd hn
  have rz : RH Z (layPls (keepT fr.t keep) h0 nx pl s).2.1 (layPls (keepT fr.t keep) h0 nx pl s).2.2 := by
    refine ⟨fun i c hi => (z2.blk i c hi).1, fun i i' c c' p m m' hi hi' _ _ a1 a2 => z2.inj _ _ _ _ _ _ _ hi hi' a1 a2, fun i a hi => ?_, fun q hq => ?_, fun q hq => ?_⟩
    · by_cases hlt : i < (layPls (keepT fr.t keep) h0 nx pl s).2.2
      · exact hlt
      · rw [z2.hi i (by omega)] at hi; cases hi
    · rw [z2.hh] at hq ⊢; exact r.fresh q hq
    · rw [z2.hh]; rw [z2.oo] at hq; exact r.ob q hq
  refine ⟨Z, z2.hh, rz, ⟨z3, I.nt, hbig, I.ds.mono fun _ _ k => k.mono z1, ?_, I.ro.mono z1⟩, z1, z2.lo, z2.oo, z2.le⟩
  rw [hup]; exact I.up
theorem layPls_keep {i : Nat} : ∀ {pl : List Pl} {tc : T V} {hc : H} {nc : Nat} {s : plDen pl}, i < nc → i ∉ plIds pl → (layPls tc hc nc pl s).2.2 ≤ 1048575 → (∀ j ∈ plIds pl, j < 1048575) → (layPls tc hc nc pl s).2.1.get i = hc.get i := by
  have sg : ∀ {sg : List Sgm} {hc : H} {nc : Nat} {s : sgDen sg}, i < nc → (laySg hc nc sg s).2.2 ≤ 1048575 → (laySg hc nc sg s).2.1.get i = hc.get i := by
    intro sg
    induction sg with
    | nil => intro hc nc s _ _; rfl
    | cons a sg ih =>
      intro hc nc s hi hb
      cases sg with
      | nil =>
        cases a with
        | lf c => rfl
        | ow g c ex =>
          show (hput hc nc _).get i = _
          have : nc + 1 ≤ 1048575 := hb
          rw [hput_get (by omega), if_neg (by omega)]
      | cons q rr =>
        cases a with
        | lf c => exact ih hi hb
        | ow g c ex =>
          have hb' : (laySg (hput hc nc (.row g c s.1 ex false false)) (nc + 1) (q :: rr) s.2).2.2 ≤ 1048575 := hb
          have hm := laySg_mono (q :: rr) (hput hc nc (.row g c s.1 ex false false)) (nc + 1) s.2
          have := ih (hc := hput hc nc (.row g c s.1 ex false false)) (nc := nc + 1) (s := s.2) (by omega) hb'
          show (laySg (hput hc nc (.row g c s.1 ex false false)) (nc + 1) (q :: rr) s.2).2.1.get i = _
          rw [this, hput_get (by omega), if_neg (by omega)]
  have one : ∀ {p : Pl} {tc : T V} {hc : H} {nc : Nat} {s : p.den}, i < nc → i ∉ plIds [p] → (layPl tc hc nc p s).2.2 ≤ 1048575 → (∀ j ∈ plIds [p], j < 1048575) → (layPl tc hc nc p s).2.1.get i = hc.get i := by
    intro p tc hc nc s hi hni hb hj
    cases p with
    | slot => rfl
    | srow k g c ex =>
      show (hput hc nc _).get i = _
      have : nc + 1 ≤ 1048575 := hb
      rw [hput_get (by omega), if_neg (by omega)]
    | box id sgl =>
      show (hput (laySg hc nc sgl s).2.1 id _).get i = _
      rw [hput_get (hj id (by simp [plIds])), if_neg (by intro hh; subst hh; exact hni (by simp [plIds]))]
      exact sg hi hb
    | map id k g c =>
      show (hput hc id _).get i = _
      rw [hput_get (hj id (by simp [plIds])), if_neg (by intro hh; subst hh; exact hni (by simp [plIds]))]
  intro pl
  induction pl with
  | nil => intros; rfl
  | cons p l ih =>
    intro tc hc nc s hi hni hb hj
    cases l with
    | nil => exact one hi hni hb hj
    | cons q rr =>
      have hb' : (layPls (layPl tc hc nc p s.1).1 (layPl tc hc nc p s.1).2.1 (layPl tc hc nc p s.1).2.2 (q :: rr) s.2).2.2 ≤ 1048575 := hb
      have hm := layPls_mono (q :: rr) (layPl tc hc nc p s.1).1 (layPl tc hc nc p s.1).2.1 (layPl tc hc nc p s.1).2.2 s.2
      have h1 := one (p := p) (tc := tc) (hc := hc) (nc := nc) (s := s.1) hi (fun h => hni (plIds_cons.1 h)) (by omega) (fun j h => hj j (plIds_cons.1 h))
      show (layPls (layPl tc hc nc p s.1).1 (layPl tc hc nc p s.1).2.1 (layPl tc hc nc p s.1).2.2 (q :: rr) s.2).2.1.get i = _
      rw [ih (Nat.lt_of_lt_of_le hi (layPl_mono tc hc nc p s.1)) (fun h => hni (plIds_cons.2 h)) hb' (fun j h => hj j (plIds_cons.2 h)), h1]
theorem keepH_has {h : H} {f : BA → BA} : ∀ {l : List Nat} {i : Nat} {c : BA}, (∀ j ∈ l, j < 1048575) → i ∈ l → h.get i = some c → c.live → (keepH h f l).get i = some (f c)
  | j :: l, i, c, hl, hm, hg, hv => by
    have h20 : (2 : Nat) ^ 20 - 1 = 1048575 := by decide
    have hj := hl j (by simp)
    unfold keepH
    by_cases hij : i = j
    · subst hij
      rw [hg]
      cases c with
      | dead => exact hv.elim
      | _ => simp only; rw [T.get_put 20 _ _ _ _ (by omega), if_pos rfl]
    · have hm' : i ∈ l := by
        rcases List.mem_cons.1 hm with e | hm
        · exact absurd e hij
        · exact hm
      have ih := keepH_has (f := f) (fun j hj => hl j (by simp [hj])) hm' hg hv
      split
      · exact ih
      · rw [T.get_put 20 _ _ _ _ (by omega), if_neg hij]; exact ih
      · exact ih
theorem lpsSet_get {h : H} : ∀ {l : List (Nat × Nat × Option Code)} {i : Nat}, (∀ p ∈ l, p.1 < 1048575) → (lpsSet h l).get i = h.get i ∨ ∃ st pd nt t ps asg body d st0 pd0, (i, st, pd) ∈ l ∧ h.get i = some (.lp st0 pd0 nt t ps asg body d) ∧ (lpsSet h l).get i = some (.lp st pd nt t ps asg body d)
  | [], i, _ => .inl rfl
  | (j, st, pd) :: l, i, hl => by
    have ih := lpsSet_get (h := h) (l := l) (i := i) fun p hp => hl p (by simp [hp])
    have hj := hl (j, st, pd) (by simp)
    unfold lpsSet
    split
    · rename_i st0 pd0 nt t ps asg body d hg
      rw [hput_get hj]
      by_cases hij : i = j
      · subst hij
        rw [if_pos rfl]
        exact .inr ⟨st, pd, nt, t, ps, asg, body, d, st0, pd0, by simp, hg, rfl⟩
      · rw [if_neg hij]
        rcases ih with ih | ⟨a1, a2, a3, a4, a5, a6, a7, a8, a9, a10, h1, h2, h3⟩
        · exact .inl ih
        · exact .inr ⟨a1, a2, a3, a4, a5, a6, a7, a8, a9, a10, by simp [h1], h2, h3⟩
    · rcases ih with ih | ⟨a1, a2, a3, a4, a5, a6, a7, a8, a9, a10, h1, h2, h3⟩
      · exact .inl ih
      · exact .inr ⟨a1, a2, a3, a4, a5, a6, a7, a8, a9, a10, by simp [h1], h2, h3⟩
end
end Go.Proofs.YtopoaknleakdcaaGreat.Sv
namespace Go.Proofs.YtopoaknleakdcaaGreat.Sv
open Go.Proofs.YtopoaknleakdcaaGreat.Pi (PV T Hp Blk DF UM PE lget_eq lset_eq mapPur pur purl)
theorem jn_some {α β γ δ : Type} {f : α → Option (LR δ γ)} {s : α} {k : δ → Option β} {k2 : γ → Option β} {x : β} (e : jn f s k k2 = some x) : (∃ y, f s = some (.nx y) ∧ k y = some x) ∨ ∃ y, f s = some (.dn y) ∧ k2 y = some x := by
  unfold jn at e
  split at e
  · cases e
  · rename_i y hy; exact .inl ⟨y, hy, e⟩
  · rename_i y hy; exact .inr ⟨y, hy, e⟩
theorem loopN_zero {α β : Type} {f : α → Option (LR α β)} {s : α} {r : β} (e : loopN 0 f s = some r) : False := by cases e
section
variable {P : Program} {tab : Tab} {ann : Ann} {f : FuncId} {rec : RecA}
/-- the code's evaluator is right at a fuel -/
def BodyOK (P : Program) (tab : Tab) (ann : Ann) (f : FuncId) (rec : RecA) (n : Nat) (c : Code) : Prop :=
  ∀ {β : Type} {x : β} {b bP : Nat} {fr : FrA} {h : H} {nx : Nat} {K : KA β}, exA P tab ann f rec n β b c fr h nx K = some x → ∀ {X : Cx} {fp : Pi.Fr}, RH X h nx → nx ≤ 1048575 → FR X fr fp → b ≤ nx → bP ≤ X.h.nx → XOk P tab b bP c X h nx fp K x
/-- one round, and what it hands on -/
def rnd (P : Program) (tab : Tab) (ann : Ann) (f : FuncId) (rec : RecA) (n : Nat) (keep : List Nat) (pl0 pl1 : List Pl) (ex : List (ExK × List (Nat × Nat × Option Code))) (pay : Ty) (kb : List Nat) (x : Code) (fr : FrA) (h : H) (nx : Nat) (s : plDen pl0) : Option (LR (plDen pl1) (Nat × plDen pl1 × pay.den)) :=
  match layPls (keepT fr.t keep) (keepH h lockB kb) nx pl0 s with
  | (t1, h1, nx1) => bif !Nat.ble nx1 1048575 then none else exA P tab ann f rec n (LR (plDen pl1) (Nat × plDen pl1 × pay.den)) nx1 x { fr with t := t1 } h1 nx1 fun e fr' h' _ =>
    bif !Nat.beq fr'.ds.length fr.ds.length || !distinct (plSrc fr'.t h' pl1 ++ kb) || !dfsAre h' (dfIds h kb) then none else match e with
    | .normal => bif lpsOk h' (lpsOf h kb) then decPls fr'.t h' pl1 fun s' => some (.nx s') else none
    | e => findEx h' ((lpsOf h kb).map (·.1)) e pay 0 ex fun i p => decPls fr'.t h' pl1 fun s' => some (.dn (i, s', p))
theorem rnd_ok {n : Nat} {keep : List Nat} {pl0 pl1 : List Pl} {ex : List (ExK × List (Nat × Nat × Option Code))} {pay : Ty} {kb : List Nat} {c : Code} {fr : FrA} {h : H} {nx bP : Nat} (B : BodyOK P tab ann f rec n c) {X : Cx} (rX : RH X h nx) (hnx : nx ≤ 1048575) (hbig : fr.nt < 1048575) (hup : fr.up = none) (hkb : ∀ i ∈ kb, i < nx) (hids : ∀ i ∈ plIds pl0, i < nx) (hids1 : ∀ i ∈ plIds pl1, i < nx) (hsl : slotsOk fr.nt pl1 = true) (hdis : ∀ i ∈ kb, i ∉ plIds pl0) (hwr : ∀ k ∈ writesC c, k ∉ keep) (hkeep : ∀ k ∈ keep, k < 1048575) (hdf : dfsOk h kb = true) (hbP : bP ≤ X.h.nx)
    {W : Cx} {fp : Pi.Fr} {s : plDen pl0} (I : It P X h nx bP fr kb keep pl0 (lpsOf h kb) W fp s) {r : LR (plDen pl1) (Nat × plDen pl1 × pay.den)} (e : rnd P tab ann f rec n keep pl0 pl1 ex pay kb c fr h nx s = some r) :
    ∃ Y fp' exP, PX P tab c fp W.h (exP, fp', Y.h) ∧ ((∃ s', r = .nx s' ∧ exP = .normal ∧ It P X h nx bP fr kb keep pl1 (lpsOf h kb) Y fp' s') ∨
      ∃ j k lp y s', r = .dn (j, s', y) ∧ ex[j]? = some (k, lp) ∧ exP ≠ .normal ∧ lp.map (·.1) = (lpsOf h kb).map (·.1) ∧ It P X h nx bP fr kb keep pl1 lp Y fp' s' ∧ ∀ Z : Cx, Z.h = Y.h → Z.O = Y.O → ExR Z (exOf pay y k) exP) := by
  have hkb' : ∀ j ∈ kb, j < 1048575 := fun j hj => by have := hkb j hj; omega
  unfold rnd at e
  generalize hL : layPls (keepT fr.t keep) (keepH h lockB kb) nx pl0 s = L at e
  obtain ⟨t1, h1, nx1⟩ := L
  simp only at e
  replace e := bifN e; obtain ⟨hb, e⟩ := e
  have hb' : nx1 ≤ 1048575 := by simpa using hb
  have hbase : BaseOf h kb (lpsOf h kb) (keepH h lockB kb) := fun i c hi => by
    obtain ⟨k1, d, k2, rfl, k3⟩ := keepH_get hkb' hi
    refine ⟨k1, d, k2, k3, .inr ⟨d, ?_, rfl⟩⟩
    cases d with
    | lp st pd nt t ps asg body dd => exact ⟨st, pd, lpsOf_mem k1 k2, rfl⟩
    | _ => rfl
  obtain ⟨Z, z1, z2, z3, z4, z5, z6, z7⟩ := I.lay hbig hup hkb hbase (by rw [hL]; exact hb')
  rw [hL] at z2 z3 z7
  simp only at z2 z3 z7
  obtain ⟨exx, fr', h', nx', Y, exP, fp', hP', q1, q2, q3, q4, q5⟩ := B e z2 hb' z3 (Nat.le_refl _) (bP := bP) (by rw [z1]; exact Nat.le_trans hbP I.ext.nx)
  replace q1 := bifN q1; obtain ⟨hck, q1⟩ := q1
  simp only [Bool.or_eq_false_iff, Bool.not_eq_false'] at hck
  obtain ⟨⟨c1, c2⟩, c3⟩ := hck
  have hKZ : Kept X h kb nx (lpsOf h kb) Z := fun i d hi hk hlv => by
    obtain ⟨hW, nW, src, rW, hK, _⟩ := I.go
    obtain ⟨k1, k2⟩ := hK i d hi hk hlv
    refine ⟨by rw [z5 i (hkb i hk)]; exact k1, fun c' hc' => ?_⟩
    have hlow : Z.low nx = W.low nx := by
      unfold Cx.low
      rw [z1, z6]
      congr 1
      funext j
      by_cases hj : j < nx
      · simp only [hj, if_true]; exact z5 j hj
      · simp only [hj, if_false]
    rw [hlow, z5 i (hkb i hk)]
    exact k2 c' hc'
  have h1k : ∀ i d, h.get i = some d → i ∈ kb → d.live → h1.get i = some (lockB d) := fun i d hi hk hlv => by
    have := layPls_keep (i := i) (pl := pl0) (tc := keepT fr.t keep) (hc := keepH h lockB kb) (nc := nx) (s := s) (hkb i hk) (hdis i hk) (by rw [hL]; exact hb') (fun j hj => by have := hids j hj; omega)
    rw [hL] at this
    rw [this]
    exact keepH_has hkb' hk hi hlv
  have hXs : ∀ i d, h.get i = some d → d.live → ∃ a, X.π i = some a := fun i d hi hlv => (rX.blk i d hi).live_blk hlv
  -- what the round leaves of the frame
  obtain ⟨N, hN⟩ := q2
  have kp : Kp (writesC c) fp fp' := exec_kp (by rw [I.nt]; exact hbig) (hN N N N (Nat.le_refl _) (Nat.le_refl _) (Nat.le_refl _))
  have hds : fp'.ds = fp.ds := by
    obtain ⟨p, hp⟩ := kp.ds
    have l1 := q4.ds.length
    have l2 := I.ds.length
    have l3 := Nat.eq_of_beq_eq_true c1
    rw [hp] at l1 ⊢
    simp only [List.length_append] at l1
    have : p = [] := List.length_eq_zero_iff.1 (by omega)
    rw [this]; rfl
  have upWY : Up (W.low nx) (Y.low nx) := by
    have u1 : Up (W.low nx) (Z.low nx) := by
      refine ⟨fun i a hi => ?_, z4.rows⟩
      by_cases hn : i < nx
      · rw [Cx.low_eq hn] at hi ⊢; rw [z5 i hn]; exact hi
      · rw [Cx.low_ge hn] at hi; cases hi
    exact u1.trans (low_ext z7 q3.ext)
  have extZ : Ext nx bP W .lf Z .lf := ⟨z4, fun j hj k => by rw [z5 j hj]; exact k, fun q _ k => by rw [z1]; exact k, by rw [z1]; exact Nat.le_refl _, fun _ _ k => (by cases k), fun q st pe nt t ps asg body d k => ⟨st, pe, by rw [z1]; exact k⟩⟩
  have extY : Ext nx bP Z .lf Y .lf := by
    have := q3.ext.le (b := nx) (bP := bP) z7 (Nat.le_refl _)
    exact ⟨this.up, this.pin, this.hpn, this.nx, fun _ _ k => (by cases k), this.lps⟩
  have ext2 := (I.ext.trans extZ).trans extY
  have mk : ∀ {lp : List (Nat × Nat × Option Code)}, lpsOk h' lp = true → lp.map (·.1) = (lpsOf h kb).map (·.1) → ∀ {γ : Type} {y : γ} {K : plDen pl1 → Option γ}, decPls fr'.t h' pl1 K = some y → ∃ s', K s' = some y ∧ It P X h nx bP fr kb keep pl1 lp Y fp' s' := by
    intro lp hl hli γ y K hdec
    obtain ⟨hKY, hlY⟩ := kept_step hdf hkb hKZ h1k hXs q3.ext z7 q3.rh c3 hl hli
    obtain ⟨s', e1, hlay⟩ := layPls_ok (nx0 := nx) q3.rh hnx q4.t q4.big (by rw [← q4.nt, kp.nt, I.nt]; exact hsl) hids1 hdec
    refine ⟨s', e1, ⟨⟨h', nx', plSrc fr'.t h' pl1, q3.rh, hKY, hlY, distinct_nodup c2, hlay⟩, keepT_mem hkeep (I.t.mono upWY) (fun k hk => kp.t k fun hw => hwr k hw hk), ?_, by rw [kp.nt]; exact I.nt, kp.up I.up, by rw [kp.ro]; exact I.ro.mono upWY, ext2⟩⟩
    rw [hds]; exact I.ds.mono fun _ _ k => k.mono upWY
  have hpx : PX P tab c fp W.h (exP, fp', Y.h) := by
    refine ⟨N, ?_⟩
    rw [q3.hp, ← z1]; exact hN
  cases exx with
  | normal =>
    simp only at q1
    replace q1 := bifY q1; obtain ⟨hl, q1⟩ := q1
    obtain ⟨s', e1, I'⟩ := mk hl rfl q1
    cases e1
    exact ⟨Y, fp', exP, hpx, .inl ⟨s', rfl, q5, I'⟩⟩
  | _ =>
    simp only at q1
    obtain ⟨j, k, lp, y, f1, f2, f3, f4, f5⟩ := findEx_ok q5 q1
    obtain ⟨s', e1, I'⟩ := mk f2 f3 f4
    cases e1
    refine ⟨Y, fp', exP, hpx, .inr ⟨0 + j, k, lp, y, s', rfl, by rw [Nat.zero_add]; exact f1, fun hh => (by rw [hh] at q5; simp [ExR] at q5), f3, I', f5⟩⟩
/-- a loop -/
theorem loop_ok {n : Nat} {tm : Tm} {kb : List Nat} {c : Code} {fr : FrA} {h : H} {nx bP : Nat} (B : BodyOK P tab ann f rec n c) {X : Cx} (rX : RH X h nx) (hnx : nx ≤ 1048575) (hbig : fr.nt < 1048575) (hup : fr.up = none) (hkb : ∀ i ∈ kb, i < nx) (hids : ∀ i ∈ plIds tm.pl, i < nx) (hsl : slotsOk fr.nt tm.pl = true) (hdis : ∀ i ∈ kb, i ∉ plIds tm.pl) (hwr : ∀ k ∈ writesC c, k ∉ tm.keep) (hkeep : ∀ k ∈ tm.keep, k < 1048575) (hdf : dfsOk h kb = true) (hbP : bP ≤ X.h.nx) :
    ∀ {m : Nat} {W : Cx} {fp : Pi.Fr} {s : plDen tm.pl} {r : Nat × plDen tm.pl × tm.pay.den}, It P X h nx bP fr kb tm.keep tm.pl (lpsOf h kb) W fp s → loopN m (rnd P tab ann f rec n tm.keep tm.pl tm.pl tm.ex tm.pay kb c fr h nx) s = some r →
      ∃ Y fp' exP j k lp y s', PX P tab (.loop c) fp W.h (exP, fp', Y.h) ∧ r = (j, s', y) ∧ tm.ex[j]? = some (k, lp) ∧ lp.map (·.1) = (lpsOf h kb).map (·.1) ∧ It P X h nx bP fr kb tm.keep tm.pl lp Y fp' s' ∧ ∀ Z : Cx, Z.h = Y.h → Z.O = Y.O → ExR Z (exOf tm.pay y k) exP
  | 0, W, fp, s, r, I, e => (loopN_zero e).elim
  | m + 1, W, fp, s, r, I, e => by
    unfold loopN at e
    split at e
    · cases e
    · rename_i s1 hr
      obtain ⟨Y, fp1, exP, hpx, hc | ⟨j, k, lp, y, s', h1, _⟩⟩ := rnd_ok B rX hnx hbig hup hkb hids hids hsl hdis hwr hkeep hdf hbP I hr
      · obtain ⟨s', h1, rfl, I'⟩ := hc
        cases h1
        obtain ⟨Y2, fp2, exP2, j, k, lp, y, s2, k1, k2, k3, k4, k5, k6⟩ := loop_ok B rX hnx hbig hup hkb hids hsl hdis hwr hkeep hdf hbP I' e
        refine ⟨Y2, fp2, exP2, j, k, lp, y, s2, ?_, k2, k3, k4, k5, k6⟩
        obtain ⟨N1, a1⟩ := hpx
        obtain ⟨N2, a2⟩ := k1
        refine ⟨max N1 N2 + 1, fun mm F nn hm hF hn => ?_⟩
        obtain ⟨mm, rfl⟩ : ∃ m', mm = m' + 1 := ⟨mm - 1, by omega⟩
        rw [Pi.exec]
        simp only [a1 mm F nn (by omega) (by omega) (by omega)]
        exact a2 mm F nn (by omega) (by omega) (by omega)
      · cases h1
    · rename_i x1 hr
      cases e
      obtain ⟨Y, fp1, exP, hpx, ⟨s', h1, _⟩ | ⟨j, k, lp, y, s', h1, h2, h3, h4, h5, h6⟩⟩ := rnd_ok B rX hnx hbig hup hkb hids hids hsl hdis hwr hkeep hdf hbP I hr
      · cases h1
      · cases h1
        refine ⟨Y, fp1, exP, j, k, lp, y, s', ?_, rfl, h2, h4, h5, h6⟩
        obtain ⟨N1, a1⟩ := hpx
        refine ⟨N1 + 1, fun mm F nn hm hF hn => ?_⟩
        obtain ⟨mm, rfl⟩ : ∃ m', mm = m' + 1 := ⟨mm - 1, by omega⟩
        rw [Pi.exec]
        simp only [a1 mm F nn (by omega) (by omega) (by omega)]
        cases exP with
        | normal => exact absurd rfl h3
        | _ => rfl
theorem kbOf_lt {h : H} {n : Nat} {l : List Nat} (hl : ∀ i ∈ l, i < n) : ∀ i ∈ kbOf h n l, i < n := fun i hi => by
  unfold kbOf at hi
  rcases List.mem_append.1 hi with hi | hi
  · exact hl i hi
  · exact List.mem_range.1 (List.mem_filter.1 hi).1
theorem kbOf_locked {h : H} {n i : Nat} {l : List Nat} {c : BA} (hi : i < n) (hg : h.get i = some c) (hk : c.locked = true) : i ∈ kbOf h n l := by
  unfold kbOf
  by_cases hm : i ∈ l
  · exact List.mem_append_left _ hm
  · refine List.mem_append_right _ (List.mem_filter.2 ⟨List.mem_range.2 hi, ?_⟩)
    simp only [hg, hk, Bool.true_and, Bool.not_eq_true', List.any_eq_false]
    intro x hx hb
    exact hm (by rw [Nat.eq_of_beq_eq_true hb]; exact hx)
theorem new_nx {h h1 : Hp} {k i : Nat} {b : Blk} (e : h.new i b = some h1) : ({ h with nx := h.nx + k } : Hp).new i b = some { h1 with nx := h1.nx + k } := by
  unfold Pi.Hp.new Pi.Hp.set at *
  dsimp only at *
  split at e
  · rename_i hg
    replace e := bifY e; obtain ⟨hb, e⟩ := e
    cases e
    rw [hb]; rfl
  · cases e
/-- a loop's block turns its state -/
theorem RH.setLp {X : Cx} {h : H} {n id pid m st nt d dP st' : Nat} {pend pend' : Option Code} {t : T V} {tP : T PV} {ps : List Nat} {asg body : Code} (r : RH X h n) (hn : n ≤ 1048575) (e0 : h.get id = some (.lp st pend nt t ps asg body d)) (hp : X.π id = some (.blk pid m)) (hb0 : X.h.get pid = some (.lp st pend nt tP ps asg body dP)) {hP : Hp} (e : X.h.set pid (.lp st' pend' nt tP ps asg body dP) = some hP) (b bP : Nat) :
    ∃ Y : Cx, Y.π = X.π ∧ Y.h = hP ∧ Y.O = X.O ∧ Up X Y ∧ RH Y (hput h id (.lp st' pend' nt t ps asg body d)) n ∧ Ext b bP X h Y (hput h id (.lp st' pend' nt t ps asg body d)) := by
  have hid : id < 1048575 := by have := r.dom _ _ hp; omega
  have hl : (BA.lp st pend nt t ps asg body d).live := trivial
  obtain ⟨g1, g2⟩ := Hp.get_set e
  have hO : X.O pid := (hp ▸ r.blk _ _ e0).own hl
  let Y : Cx := { π := X.π, h := hP, O := X.O }
  have u : Up X Y := ⟨fun _ _ h => h, fun q es ex fz hq hg => ⟨⟨fz, by
    show hP.get q = _
    rw [g1, if_neg (by intro hh; subst hh; exact hq hO), hg]⟩, hq⟩⟩
  refine ⟨Y, rfl, rfl, rfl, u, ⟨fun i bb hi => ?_, fun i i' bb bb' q m1 m2 hi hi' l1 l2 => ?_, r.dom, fun q hq => ?_, fun q hq => by
    show hP.get q ≠ none
    rw [g1]; split
    · simp
    · exact r.ob _ hq⟩, ⟨(Up.low X b).trans u, fun _ _ h => h, fun q hq hn => ?_, ?_, fun j bb hj hlk => ?_, fun q st pe nt t ps asg body d hq => ?_⟩⟩
  · rw [hput_get hid] at hi
    by_cases hii : i = id
    · rw [if_pos hii] at hi; cases hi; subst hii
      have := r.blk _ _ e0
      obtain ⟨pid', n', tP', dP', m', h1, h2, h3, h4, h5, h6⟩ := this
      rw [hp] at h1; cases h1
      rw [hb0] at h3; cases h3
      exact ⟨_, _, _, _, _, hp, h2, by show hP.get _ = _; rw [g1, if_pos rfl], h4.mono u, h5, h6⟩
    · rw [if_neg hii] at hi
      by_cases hlv : bb.live
      · refine (r.blk _ _ hi).keep u fun q m' hq hO' => ⟨?_, hO'⟩
        show hP.get q = _
        rw [g1, if_neg]
        intro hh; subst hh
        exact hii (r.inj _ _ _ _ _ _ _ hi e0 hlv hl hq hp)
      · cases bb with
        | dead => trivial
        | _ => exact absurd trivial hlv
  · rw [hput_get hid] at hi hi'
    by_cases h1 : i = id
    · by_cases h2 : i' = id
      · intro _ _; rw [h1, h2]
      · rw [if_neg h2] at hi'
        subst h1
        intro a1 a2
        exact r.inj _ _ _ _ _ _ _ e0 hi' hl l2 a1 a2
    · rw [if_neg h1] at hi
      by_cases h2 : i' = id
      · subst h2
        intro a1 a2
        exact r.inj _ _ _ _ _ _ _ hi e0 l1 hl a1 a2
      · rw [if_neg h2] at hi'
        exact r.inj _ _ _ _ _ _ _ hi hi' l1 l2
  · show hP.get q = none
    have hq' : X.h.nx ≤ q := by rw [← g2]; exact hq
    rw [g1, if_neg (by intro hh; subst hh; rw [r.fresh _ hq'] at hb0; cases hb0)]
    exact r.fresh _ hq'
  · show hP.get q = none
    rw [g1, if_neg (by intro hh; subst hh; rw [hn] at hb0; cases hb0)]; exact hn
  · show X.h.nx ≤ hP.nx
    rw [g2]; exact Nat.le_refl _
  · rw [hput_get hid]
    rw [if_neg (by intro hh; subst hh; rw [e0] at hj; cases hj; cases hlk)]; exact hj
  · by_cases hh : q = pid
    · subst hh
      rw [hb0] at hq; cases hq
      exact ⟨_, _, by show hP.get _ = _; rw [g1, if_pos rfl]⟩
    · exact ⟨st, pe, by show hP.get _ = _; rw [g1, if_neg hh]; exact hq⟩
theorem lpsSet_mem {h : H} {nt d st0 : Nat} {pd0 : Option Code} {t : T V} {ps : List Nat} {asg body : Code} {i : Nat} (hg : h.get i = some (.lp st0 pd0 nt t ps asg body d)) : ∀ {l : List (Nat × Nat × Option Code)}, (∀ p ∈ l, p.1 < 1048575) → i ∈ l.map (·.1) → ∃ st pd, (i, st, pd) ∈ l ∧ (lpsSet h l).get i = some (.lp st pd nt t ps asg body d)
  | (j, st, pd) :: l, hl, hm => by
    have hj := hl (j, st, pd) (by simp)
    unfold lpsSet
    by_cases hij : i = j
    · subst hij
      rw [hg]
      exact ⟨st, pd, by simp, by simp only; rw [hput_get hj, if_pos rfl]⟩
    · have hm' : i ∈ l.map (·.1) := by
        rcases List.mem_cons.1 hm with e | hm
        · exact absurd e hij
        · exact hm
      obtain ⟨st', pd', h1, h2⟩ := lpsSet_mem hg (fun p hp => hl p (by simp [hp])) hm'
      refine ⟨st', pd', by simp [h1], ?_⟩
      split
      · rw [hput_get hj, if_neg hij]; exact h2
      · exact h2
theorem lpsOf_spec {h : H} : ∀ {l : List Nat} {i st : Nat} {pd : Option Code}, (i, st, pd) ∈ lpsOf h l → i ∈ l ∧ ∃ nt t ps asg body d, h.get i = some (.lp st pd nt t ps asg body d)
  | j :: l, i, st, pd, hm => by
    unfold lpsOf at hm
    split at hm
    · rename_i hg
      rcases List.mem_cons.1 hm with e | hm
      · cases e
        exact ⟨by simp, _, _, _, _, _, _, hg⟩
      · have := lpsOf_spec hm
        exact ⟨by simp [this.1], this.2⟩
    · have := lpsOf_spec hm
      exact ⟨by simp [this.1], this.2⟩
theorem plIds_src {t : T V} {h : H} : ∀ {l : List Pl} {i : Nat}, i ∈ plIds l → i ∈ plSrc t h l
  | [], _, hm => by cases hm
  | p :: l, i, hm => by
    cases p with
    | slot k g c => exact plIds_src (l := l) (by simpa [plIds] using hm)
    | srow k g c ex =>
      have := plIds_src (t := t) (h := h) (l := l) (i := i) (by simpa [plIds] using hm)
      simp only [plSrc]
      exact List.mem_append_right _ this
    | box id sg =>
      simp only [plIds, List.mem_cons] at hm
      simp only [plSrc]
      refine List.mem_append_right _ ?_
      rcases hm with rfl | hm
      · simp
      · exact List.mem_cons_of_mem _ (plIds_src hm)
    | map id k g c =>
      simp only [plIds, List.mem_cons] at hm
      simp only [plSrc]
      rcases hm with rfl | hm
      · simp
      · exact List.mem_cons_of_mem _ (plIds_src hm)
theorem It.entry {X : Cx} {h : H} {nx bP : Nat} {fr : FrA} {fp : Pi.Fr} {kb keep : List Nat} {pl : List Pl} (r : RH X h nx) (hnx : nx ≤ 1048575) (F : FR X fr fp) (hup : fr.up = none) (hkb : ∀ i ∈ kb, i < nx) (hsl : slotsOk fr.nt pl = true) (hids : ∀ i ∈ plIds pl, i < nx) (hnd : (plSrc fr.t h pl ++ kb).Nodup) (hkeep : ∀ k ∈ keep, k < 1048575) {γ : Type} {y : γ} {K : plDen pl → Option γ} (e : decPls fr.t h pl K = some y) :
    ∃ s, K s = some y ∧ It P X h nx bP fr kb keep pl (lpsOf h kb) X fp s := by
  have ul := Up.toLow r (Nat.le_refl _)
  obtain ⟨s, e1, hlay⟩ := layPls_ok (nx0 := nx) r hnx F.t F.big hsl hids e
  refine ⟨s, e1, ⟨⟨h, nx, plSrc fr.t h pl, r, fun i c hi hk hlv => ⟨rfl, fun c' hc' => ?_⟩, fun i c hi hk hlv => ⟨c, hi, hlv⟩, hnd, hlay⟩, fun k v hk => ?_, F.ds.mono fun _ _ k => k.mono ul, F.nt, by have := F.up; rw [hup] at this; exact this, F.ro.mono ul, ?_⟩⟩
  · have : c' = c := by
      cases c with
      | lp st pd nt t ps asg body d =>
        obtain ⟨st', pd', hm, rfl⟩ := hc'
        obtain ⟨_, _, _, _, _, _, _, hg⟩ := lpsOf_spec hm
        rw [hi] at hg; cases hg; rfl
      | _ => exact hc'
    subst this
    exact (r.blk _ _ hi).keep ul fun _ _ _ hO => ⟨rfl, hO⟩
  · exact F.t.mono ul k v (keepT_get hkeep hk).2
  · exact ⟨Up.low X nx, fun _ _ h => h, fun _ _ h => h, Nat.le_refl _, fun _ _ k => (by cases k), fun q st pe nt t ps asg body d k => ⟨st, pe, k⟩⟩
/-- the places laid again behind a loop, or behind ends that come together -/
theorem lay_back {keep kb0 : List Nat} {pl : List Pl} {fr : FrA} {h : H} {nx b bP : Nat} {X : Cx} (r : RH X h nx) (hn : nx ≤ 1048575) (hbig : fr.nt < 1048575) (hup : fr.up = none) (hkb : ∀ i ∈ kbOf h nx kb0, i < nx) (hids : ∀ i ∈ plIds pl, i < nx) (hdis : ∀ i ∈ kbOf h nx kb0, i ∉ plIds pl) (hb : b ≤ nx)
    {lp : List (Nat × Nat × Option Code)} (hlpi : lp.map (·.1) = (lpsOf h (kbOf h nx kb0)).map (·.1)) {Y : Cx} {fp' : Pi.Fr} {s' : plDen pl} (I' : It P X h nx bP fr (kbOf h nx kb0) keep pl lp Y fp' s') {β : Type} {x : β} {k : T V → H → Nat → Option β}
    (e1 : (match layPls (keepT fr.t keep) (lpsSet (keepH h (fun b => b) (kbOf h nx kb0)) lp) nx pl s' with
      | (t1, h1, nx1) => bif !Nat.ble nx1 1048575 then none else k t1 h1 nx1) = some x) :
    ∃ t1 h1 nx1 Z, k t1 h1 nx1 = some x ∧ Z.h = Y.h ∧ Z.O = Y.O ∧ FR Z { fr with t := t1 } fp' ∧ Run b bP X h nx Z h1 nx1 Z.h := by
  generalize hL : layPls (keepT fr.t keep) (lpsSet (keepH h (fun b => b) (kbOf h nx kb0)) lp) nx pl s' = L at e1
  obtain ⟨t1, h1, nx1⟩ := L
  simp only at e1
  replace e1 := bifN e1; obtain ⟨hb1, e1⟩ := e1
  have hb' : nx1 ≤ 1048575 := by simpa using hb1
  have hkb' : ∀ j ∈ kbOf h nx kb0, j < 1048575 := fun j hj => by have := hkb j hj; omega
  have hlpb : ∀ p ∈ lp, p.1 ∈ kbOf h nx kb0 := fun p hp => by
    have : p.1 ∈ lp.map (·.1) := List.mem_map.2 ⟨p, hp, rfl⟩
    rw [hlpi] at this
    obtain ⟨⟨i, st, pd⟩, h1, h2⟩ := List.mem_map.1 this
    simp only at h2
    rw [← h2]; exact (lpsOf_spec h1).1
  have hbase : BaseOf h (kbOf h nx kb0) lp (lpsSet (keepH h (fun b => b) (kbOf h nx kb0)) lp) := fun i c hi => by
    rcases lpsSet_get (h := keepH h (fun b => b) (kbOf h nx kb0)) (l := lp) (i := i) (fun p hp => hkb' _ (hlpb p hp)) with hg | ⟨st, pd, nt, t, ps, asg, body, d, st0, pd0, hm, hg, hs⟩
    · rw [hg] at hi
      obtain ⟨k1, d, k2, hcd, k3⟩ := keepH_get hkb' hi
      have hcd : d = c := hcd.symm
      subst hcd
      refine ⟨k1, _, k2, k3, .inl ?_⟩
      cases d with
      | lp st pd nt t ps asg body d =>
        have h0 := keepH_has (f := fun b => b) hkb' k1 k2 k3
        have hm : i ∈ lp.map (·.1) := by
          rw [hlpi]; exact List.mem_map.2 ⟨_, lpsOf_mem k1 k2, rfl⟩
        obtain ⟨st', pd', m1, m2⟩ := lpsSet_mem h0 (fun p hp => hkb' _ (hlpb p hp)) hm
        rw [hg, h0] at m2
        cases m2
        exact ⟨st, pd, m1, rfl⟩
      | _ => rfl
    · rw [hs] at hi; cases hi
      obtain ⟨k1, d', k2, k3, k4⟩ := keepH_get hkb' hg
      subst k3
      exact ⟨k1, _, k2, k4, .inl ⟨st, pd, hm, rfl⟩⟩
  obtain ⟨Z, z1, z2, z3, z4, z5, z6, z7⟩ := I'.lay hbig hup hkb hbase (by rw [hL]; exact hb')
  rw [hL] at z2 z3 z7
  simp only at z2 z3 z7
  refine ⟨t1, h1, nx1, Z, e1, z1, z6, z3, ⟨rfl, z2, hb', z7, ?_⟩⟩
  have extZ : Ext nx bP Y .lf Z .lf := ⟨z4, fun j hj k => by rw [z5 j hj]; exact k, fun q _ k => by rw [z1]; exact k, by rw [z1]; exact Nat.le_refl _, fun _ _ k => (by cases k), fun q st pe nt t ps asg body d k => ⟨st, pe, by rw [z1]; exact k⟩⟩
  have ext2 := (I'.ext.trans extZ).le hb (Nat.le_refl bP)
  refine ⟨ext2.up, ext2.pin, ext2.hpn, ext2.nx, fun i c hi hlk => ?_, ext2.lps⟩
  have hlv : c.live := by cases c <;> first | trivial | cases hlk
  obtain ⟨at', hat⟩ := (r.blk _ _ hi).live_blk hlv
  have hi' := r.dom _ _ hat
  have hk := kbOf_locked (l := kb0) hi' hi hlk
  have h2 := layPls_keep (i := i) (pl := pl) (tc := keepT fr.t keep) (hc := lpsSet (keepH h (fun b => b) (kbOf h nx kb0)) lp) (nc := nx) (s := s') hi' (hdis i hk) (by rw [hL]; exact hb') (fun j hj => by have := hids j hj; omega)
  rw [hL] at h2
  simp only at h2
  rw [h2]
  have h3 := keepH_has (f := fun b => b) hkb' hk hi hlv
  rcases lpsSet_get (h := keepH h (fun b => b) (kbOf h nx kb0)) (l := lp) (i := i) (fun p hp => hkb' _ (hlpb p hp)) with hg | ⟨st, pd, nt, t, ps, asg, body, d, st0, pd0, hm, hg, hs⟩
  · rw [hg]; exact h3
  · rw [h3] at hg; cases hg; cases hlk
theorem exA_ok (R : RecAOK P tab rec) (T : TabOK P tab) (D : DrawnAOK P tab) : ∀ (n : Nat) (c : Code), BodyOK P tab ann f rec n c := by
  intro n
  induction n with
  | zero =>
    intro c β x b bP fr h nx K e
    cases e
  | succ n ih =>
    intro c β x b bP fr h nx K e X fp r hn F hb hbP
    have fin : ∀ {ex : ExA} {exP : Pi.Ex}, K ex fr h nx = some x → ExR X ex exP → (∀ m FF nn, Pi.exec P (shOf tab) (Pi.doN P (shOf tab) FF nn) (m + 1) c fp X.h = some (exP, fp, X.h)) → XOk P tab b bP c X h nx fp K x := fun e hx hp =>
      ⟨_, fr, h, nx, X, _, fp, X.h, e, ⟨1, fun m FF nn hm _ _ => by obtain ⟨m, rfl⟩ : ∃ m', m = m' + 1 := ⟨m - 1, by omega⟩; exact hp m FF nn⟩, ⟨rfl, r, hn, Nat.le_refl _, Ext.refl _ _ _ _⟩, F, hx⟩
    cases c with
    | skip => exact fin e rfl fun _ _ _ => rfl
    | label l => exact fin e rfl fun _ _ _ => rfl
    | exit i => exact fin e rfl fun _ _ _ => rfl
    | goto i => exact fin e rfl fun _ _ _ => rfl
    | ret => exact fin e rfl fun _ _ _ => rfl
    | refuse w => cases e
    | seq a d =>
      simp only [exA] at e
      split at e
      · rename_i tm htm
        replace e := bifN e; obtain ⟨hck, e⟩ := e
        simp only [Bool.or_eq_false_iff, Bool.not_eq_false'] at hck
        obtain ⟨⟨⟨⟨⟨⟨⟨⟨c1, c2⟩, c2'⟩, c3⟩, c4⟩, c5⟩, c6⟩, c7⟩, c8⟩ := hck
        have hup : fr.up = none := by
          cases hu : fr.up with
          | none => rfl
          | some u => rw [hu] at c1; cases c1
        have hall : ∀ i ∈ kbOf h nx tm.kb ++ (plIds tm.pl0 ++ plIds tm.pl1), i < nx := fun i hi => by
          have := List.all_eq_true.1 c6 i hi
          simpa using this
        have hkb : ∀ i ∈ kbOf h nx tm.kb, i < nx := fun i hi => hall i (List.mem_append_left _ hi)
        have hids : ∀ i ∈ plIds tm.pl0, i < nx := fun i hi => hall i (List.mem_append_right _ (List.mem_append_left _ hi))
        have hids1 : ∀ i ∈ plIds tm.pl1, i < nx := fun i hi => hall i (List.mem_append_right _ (List.mem_append_right _ hi))
        have hnd := distinct_nodup c5
        have hdis : ∀ i ∈ kbOf h nx tm.kb, i ∉ plIds tm.pl0 := fun i hi hm => (List.nodup_append.1 hnd).2.2 i (plIds_src hm) i hi rfl
        have hdis1 : ∀ i ∈ kbOf h nx tm.kb, i ∉ plIds tm.pl1 := fun i hi hm => by
          have := List.any_eq_false.1 c8 i hi
          simp only [Bool.not_eq_true, List.any_eq_false] at this
          have := this i (List.mem_append_right _ hm)
          simp at this
        have hkeep : ∀ k ∈ tm.keep, k < 1048575 := fun k hk => by
          have := List.all_eq_true.1 c3 k hk
          simpa using this
        have hwr : ∀ k ∈ writesC a, k ∉ tm.keep := fun k hk hm => by
          have := List.any_eq_false.1 c4 k hk
          simp only [Bool.not_eq_true, List.any_eq_false] at this
          have := this k hm
          simp at this
        obtain ⟨s0, e, I⟩ := It.entry (P := P) (bP := bP) r hn F hup hkb c2 hids hnd hkeep e
        replace e := jn_some e
        rcases e with ⟨s1, hr, e⟩ | ⟨⟨j, s', y⟩, hr, e⟩
        · obtain ⟨Y, fp', exP, hpx, hc | ⟨j, k, lp, y, s', h1, _⟩⟩ := rnd_ok (keep := tm.keep) (pl0 := tm.pl0) (pl1 := tm.pl1) (ex := tm.ex) (pay := tm.pay) (ih a) r hn F.big hup hkb hids hids1 c2' hdis hwr hkeep c7 hbP I hr
          · obtain ⟨s', h1, rfl, I'⟩ := hc
            cases h1
            obtain ⟨t1, h1, nx1, Z, e2, z1, z6, z3, run⟩ := lay_back (b := b) (k := fun t h n' => exA P tab ann f rec n β b d { fr with t := t } h n' K) r hn F.big hup hkb hids1 hdis1 hb rfl I' e
            obtain ⟨N1, hN⟩ := hpx
            obtain ⟨ex2, fr2, h2, nx2, Y2, exP2, fp2, hP2, p1, ⟨N2, p2⟩, p3, p4, p5⟩ := ih d e2 run.rh run.big z3 (Nat.le_trans hb run.le) (Nat.le_trans hbP run.ext.nx)
            refine ⟨ex2, fr2, h2, nx2, Y2, exP2, fp2, hP2, p1, ⟨max N1 N2 + 1, fun m FF nn hm hF hnn => ?_⟩, ⟨p3.hp, p3.rh, p3.big, Nat.le_trans run.le p3.le, run.ext.trans p3.ext⟩, p4, p5⟩
            obtain ⟨m, rfl⟩ : ∃ m', m = m' + 1 := ⟨m - 1, by omega⟩
            rw [Pi.exec]
            simp only [hN m FF nn (by omega) (by omega) (by omega)]
            rw [← z1]
            exact p2 m FF nn (by omega) (by omega) (by omega)
          · cases h1
        · obtain ⟨Y, fp', exP, hpx, ⟨s1, h1, _⟩ | ⟨j', k, lp, y', s'', h1, hex, h3, hlpi, I', hends⟩⟩ := rnd_ok (keep := tm.keep) (pl0 := tm.pl0) (pl1 := tm.pl1) (ex := tm.ex) (pay := tm.pay) (ih a) r hn F.big hup hkb hids hids1 c2' hdis hwr hkeep c7 hbP I hr
          · cases h1
          · cases h1
            have e1 := selEx_ok (i := 0) (j := j) hex (by rw [Nat.zero_add]; exact e)
            obtain ⟨t1, h1, nx1, Z, e2, z1, z6, z3, run⟩ := lay_back (b := b) (k := fun t h n' => K (exOf tm.pay y k) { fr with t := t } h n') r hn F.big hup hkb hids1 hdis1 hb hlpi I' e1
            obtain ⟨N, hN⟩ := hpx
            refine ⟨_, _, h1, nx1, Z, exP, fp', Z.h, e2, ⟨N + 1, fun m FF nn hm hF hnn => ?_⟩, run, z3, hends Z z1 z6⟩
            obtain ⟨m, rfl⟩ : ∃ m', m = m' + 1 := ⟨m - 1, by omega⟩
            rw [Pi.exec]
            simp only [hN m FF nn (by omega) (by omega) (by omega)]
            rw [z1]
            cases exP with
            | normal => exact absurd rfl h3
            | _ => rfl
      · obtain ⟨ex, fr1, h1, nx1, Y, exP, fp1, hP1, q1, ⟨N1, q2⟩, q3, q4, q5⟩ := ih a e r hn F hb hbP
        cases ex with
        | normal =>
          simp only at q1
          have hexP : exP = .normal := q5
          subst hexP
          have hYP : Y.h = hP1 := q3.hp
          obtain ⟨ex2, fr2, h2, nx2, Y2, exP2, fp2, hP2, p1, ⟨N2, p2⟩, p3, p4, p5⟩ := ih d q1 q3.rh q3.big q4 (Nat.le_trans hb q3.le) (Nat.le_trans hbP q3.ext.nx)
          refine ⟨ex2, fr2, h2, nx2, Y2, exP2, fp2, hP2, p1, ⟨max N1 N2 + 1, fun m FF nn hm hF hnn => ?_⟩, ⟨p3.hp, p3.rh, p3.big, Nat.le_trans q3.le p3.le, q3.ext.trans p3.ext⟩, p4, p5⟩
          obtain ⟨m, rfl⟩ : ∃ m', m = m' + 1 := ⟨m - 1, by omega⟩
          rw [Pi.exec]
          simp only [q2 m FF nn (by omega) (by omega) (by omega)]
          rw [← hYP]
          exact p2 m FF nn (by omega) (by omega) (by omega)
        | _ =>
          simp only at q1
          refine ⟨_, fr1, h1, nx1, Y, exP, fp1, hP1, q1, ⟨N1 + 1, fun m FF nn hm hF hnn => ?_⟩, q3, q4, q5⟩
          obtain ⟨m, rfl⟩ : ∃ m', m = m' + 1 := ⟨m - 1, by omega⟩
          rw [Pi.exec]
          simp only [q2 m FF nn (by omega) (by omega) (by omega)]
          cases exP with
          | normal => simp [ExR] at q5
          | _ => rfl
    | cond o a d =>
      simp only [exA] at e
      replace e := evsA_ok F.t e; obtain ⟨v, p, e, h1, h2⟩ := e
      split at e
      · simp only [VR] at h2; subst h2
        replace e := br_some e
        rcases e with ⟨hc, e⟩ | ⟨hc, e⟩
        · subst hc
          obtain ⟨ex2, fr2, h2, nx2, Y2, exP2, fp2, hP2, p1, ⟨N2, p2⟩, p3, p4, p5⟩ := ih a e r hn F hb hbP
          refine ⟨ex2, fr2, h2, nx2, Y2, exP2, fp2, hP2, p1, ⟨N2 + 1, fun m FF nn hm hF hnn => ?_⟩, p3, p4, p5⟩
          obtain ⟨m, rfl⟩ : ∃ m', m = m' + 1 := ⟨m - 1, by omega⟩
          rw [Pi.exec]
          simp only [h1]
          exact p2 m FF nn (by omega) (by omega) (by omega)
        · subst hc
          obtain ⟨ex2, fr2, h2, nx2, Y2, exP2, fp2, hP2, p1, ⟨N2, p2⟩, p3, p4, p5⟩ := ih d e r hn F hb hbP
          refine ⟨ex2, fr2, h2, nx2, Y2, exP2, fp2, hP2, p1, ⟨N2 + 1, fun m FF nn hm hF hnn => ?_⟩, p3, p4, p5⟩
          obtain ⟨m, rfl⟩ : ∃ m', m = m' + 1 := ⟨m - 1, by omega⟩
          rw [Pi.exec]
          simp only [h1]
          exact p2 m FF nn (by omega) (by omega) (by omega)
      · cases e
    | block id a =>
      simp only [exA] at e
      obtain ⟨ex, fr1, h1, nx1, Y, exP, fp1, hP1, q1, ⟨N1, q2⟩, q3, q4, q5⟩ := ih a e r hn F hb hbP
      have go : ∀ {ex' : ExA} {exP' : Pi.Ex}, K ex' fr1 h1 nx1 = some x → ExR Y ex' exP' → (∀ m FF nn, N1 ≤ m → N1 ≤ FF → N1 ≤ nn → Pi.exec P (shOf tab) (Pi.doN P (shOf tab) FF nn) (m + 1) (.block id a) fp X.h = some (exP', fp1, hP1)) → XOk P tab b bP (.block id a) X h nx fp K x := fun e1 e2 e3 =>
        ⟨_, fr1, h1, nx1, Y, _, fp1, hP1, e1, ⟨N1 + 1, fun m FF nn hm hF hnn => by obtain ⟨m, rfl⟩ : ∃ m', m = m' + 1 := ⟨m - 1, by omega⟩; exact e3 m FF nn (by omega) (by omega) (by omega)⟩, q3, q4, e2⟩
      cases ex with
      | exit j =>
        have hexP : exP = .exit j := q5
        subst hexP
        simp only at q1
        replace q1 := bifT' q1
        rcases q1 with ⟨hj, q1⟩ | ⟨hj, q1⟩
        · exact go q1 (exP' := .normal) rfl fun m FF nn h1 h2 h3 => by rw [Pi.exec]; simp only [q2 m FF nn h1 h2 h3, hj, cond_true]
        · exact go q1 (exP' := .exit j) rfl fun m FF nn h1 h2 h3 => by rw [Pi.exec]; simp only [q2 m FF nn h1 h2 h3, hj, cond_false]
      | _ =>
        simp only at q1
        refine go q1 q5 fun m FF nn h1 h2 h3 => ?_
        rw [Pi.exec]; simp only [q2 m FF nn h1 h2 h3]
        cases exP with
        | exit => simp [ExR] at q5
        | _ => rfl
    | scope a =>
      simp only [exA] at e
      obtain ⟨ex, fr1, h1, nx1, Y, exP, fp1, hP1, q1, ⟨N1, q2⟩, q3, q4, q5⟩ := ih a e r hn F hb hbP
      cases ex with
      | goto j => cases q1
      | _ =>
        simp only at q1
        refine ⟨_, fr1, h1, nx1, Y, exP, fp1, hP1, q1, ⟨N1 + 1, fun m FF nn hm hF hnn => ?_⟩, q3, q4, q5⟩
        obtain ⟨m, rfl⟩ : ∃ m', m = m' + 1 := ⟨m - 1, by omega⟩
        rw [Pi.exec]; simp only [q2 m FF nn (by omega) (by omega) (by omega)]
        cases exP with
        | goto => simp [ExR] at q5
        | _ => rfl
    | region id ops draw =>
      simp only [exA] at e
      replace e := bifN e; obtain ⟨hck, e⟩ := e
      simp only [Bool.or_eq_false_iff, Bool.not_eq_false'] at hck
      have hsz : nx + ops.size ≤ 1048575 := Nat.le_of_ble_eq_true hck.1
      have hdst : ∀ o ∈ ops.toList, ∀ d, o.dst = some d → d < fr.nt := fun o ho d hd => by
        have := List.all_eq_true.1 hck.2 o ho
        rw [hd] at this
        simpa using this
      have hlen : ops.toList.length = ops.size := Array.length_toList
      replace e := bifT' e
      rcases e with ⟨hd, e⟩ | ⟨hd, e⟩
      · replace e := bifY e; obtain ⟨hfo, e⟩ := e
        obtain ⟨fr1, h1, Y, fp1, hP1, q1, ⟨N, q2⟩, q3, q4⟩ := D.go e r (by rw [hlen]; exact hsz) F hdst
        rw [hlen] at q2 q3
        refine ⟨.normal, fr1, h1, nx + ops.size, Y, .normal, fp1, hP1, q1, ⟨N + 1, fun m FF nn hm hF hnn => ?_⟩, q3 b bP hb hbP, q4, rfl⟩
        obtain ⟨m, rfl⟩ : ∃ m', m = m' + 1 := ⟨m - 1, by omega⟩
        rw [Pi.exec]
        simp only [hd, hfo, cond_true]
        have := q2 FF nn (by omega) (by omega)
        rw [show ({ X.h with nx := X.h.nx + ops.size } : Hp) = (X.bump ops.size).h from rfl, this]
      · obtain ⟨ex, fr1, h1, nx1, Y, exP, fp1, hP1, q1, ⟨N, q2⟩, q3, q4, q5⟩ := runOpsA_ok R T (base := nx) (baseP := X.h.nx) (b := b) (bP := bP) hb hbP (all := ops.toList) (ops := ops.toList) (i := 0) (X := X.bump ops.size) e (r.bump _) hsz (F.mono (bump_up X _)) hdst
          (fun j _ _ => ⟨by
            cases hp : X.π (nx + j) with
            | none => exact hp
            | some a => have := r.dom _ _ hp; omega, by rw [bump_get]; exact r.fresh _ (by omega)⟩) (by omega) (by show X.h.nx + 0 + _ ≤ X.h.nx + ops.size; omega)
        refine ⟨ex, fr1, h1, nx1, Y, exP, fp1, hP1, q1, ⟨N + 1, fun m FF nn hm hF hnn => ?_⟩, ⟨q3.hp, q3.rh, q3.big, Nat.le_trans (Nat.le_add_right _ _) q3.le, (bump_ext X h ops.size b bP).trans q3.ext⟩, q4, q5⟩
        obtain ⟨m, rfl⟩ : ∃ m', m = m' + 1 := ⟨m - 1, by omega⟩
        rw [Pi.exec]
        simp only [hd, cond_false]
        exact q2 FF nn (by omega) (by omega)
    | loop a =>
      simp only [exA] at e
      split at e
      · rename_i tm htm
        replace e := bifN e; obtain ⟨hck, e⟩ := e
        simp only [Bool.or_eq_false_iff, Bool.not_eq_false'] at hck
        obtain ⟨⟨⟨⟨⟨⟨c1, c2⟩, c3⟩, c4⟩, c5⟩, c6⟩, c7⟩ := hck
        have hup : fr.up = none := by
          cases hu : fr.up with
          | none => rfl
          | some u => rw [hu] at c1; cases c1
        have hall : ∀ i ∈ kbOf h nx tm.kb ++ plIds tm.pl, i < nx := fun i hi => by
          have := List.all_eq_true.1 c6 i hi
          simpa using this
        have hkb : ∀ i ∈ kbOf h nx tm.kb, i < nx := fun i hi => hall i (List.mem_append_left _ hi)
        have hids : ∀ i ∈ plIds tm.pl, i < nx := fun i hi => hall i (List.mem_append_right _ hi)
        have hnd := distinct_nodup c5
        have hdis : ∀ i ∈ kbOf h nx tm.kb, i ∉ plIds tm.pl := fun i hi hm => (List.nodup_append.1 hnd).2.2 i (plIds_src hm) i hi rfl
        have hkeep : ∀ k ∈ tm.keep, k < 1048575 := fun k hk => by
          have := List.all_eq_true.1 c3 k hk
          simpa using this
        have hwr : ∀ k ∈ writesC a, k ∉ tm.keep := fun k hk hm => by
          have := List.any_eq_false.1 c4 k hk
          simp only [Bool.not_eq_true, List.any_eq_false] at this
          have := this k hm
          simp at this
        obtain ⟨s0, e, I⟩ := It.entry (P := P) (bP := bP) r hn F hup hkb c2 hids hnd hkeep e
        replace e := bd_some e; obtain ⟨⟨j, s', y⟩, hloop, e⟩ := e
        obtain ⟨Y, fp', exP, j', k, lp, y', s'', hpx, hr, hex, hlpi, I', hends⟩ := loop_ok (f := f) (ann := ann) (ih a) r hn F.big hup hkb hids c2 hdis hwr hkeep c7 hbP I (m := 18446744073709551616) hloop
        cases hr
        have e1 := selEx_ok (i := 0) (j := j) hex (by rw [Nat.zero_add]; exact e)
        obtain ⟨t1, h1, nx1, Z, e2, z1, z6, z3, run⟩ := lay_back (b := b) (k := fun t h n' => K (exOf tm.pay y k) { fr with t := t } h n') r hn F.big hup hkb hids hdis hb hlpi I' e1
        obtain ⟨N, hN⟩ := hpx
        exact ⟨_, _, h1, nx1, Z, exP, fp', Z.h, e2, ⟨N, by rw [z1]; exact hN⟩, run, z3, hends Z z1 z6⟩
      · obtain ⟨ex, fr1, h1, nx1, Y, exP, fp1, hP1, q1, ⟨N1, q2⟩, q3, q4, q5⟩ := ih a e r hn F hb hbP
        cases ex with
        | normal =>
          simp only at q1
          have hexP : exP = .normal := q5
          subst hexP
          have hYP : Y.h = hP1 := q3.hp
          obtain ⟨ex2, fr2, h2, nx2, Y2, exP2, fp2, hP2, p1, ⟨N2, p2⟩, p3, p4, p5⟩ := ih (.loop a) q1 q3.rh q3.big q4 (Nat.le_trans hb q3.le) (Nat.le_trans hbP q3.ext.nx)
          refine ⟨ex2, fr2, h2, nx2, Y2, exP2, fp2, hP2, p1, ⟨max N1 N2 + 1, fun m FF nn hm hF hnn => ?_⟩, ⟨p3.hp, p3.rh, p3.big, Nat.le_trans q3.le p3.le, q3.ext.trans p3.ext⟩, p4, p5⟩
          obtain ⟨m, rfl⟩ : ∃ m', m = m' + 1 := ⟨m - 1, by omega⟩
          rw [Pi.exec]
          simp only [q2 m FF nn (by omega) (by omega) (by omega)]
          rw [← hYP]
          exact p2 m FF nn (by omega) (by omega) (by omega)
        | _ =>
          simp only at q1
          refine ⟨_, fr1, h1, nx1, Y, exP, fp1, hP1, q1, ⟨N1 + 1, fun m FF nn hm hF hnn => ?_⟩, q3, q4, q5⟩
          obtain ⟨m, rfl⟩ : ∃ m', m = m' + 1 := ⟨m - 1, by omega⟩
          rw [Pi.exec]
          simp only [q2 m FF nn (by omega) (by omega) (by omega)]
          cases exP with
          | normal => simp [ExR] at q5
          | _ => rfl
    | rangeFunc g ps asg body =>
      simp only [exA] at e
      replace e := bifN e; obtain ⟨hsz, e⟩ := e
      have hsz' : nx + 2 ≤ 1048575 := by simpa using hsz
      replace e := evsA_ok F.t e; obtain ⟨v, p, e, h1, h2⟩ := e
      split at e
      · rename_i g' a1 b1
        simp only [VR] at h2
        obtain ⟨aP, bP1, rfl, va, vb⟩ := h2
        split at e
        · rename_i d mark hh hstep
          have r2 : RH (X.bump 2) h (nx + 2) := r.bump 2
          have u2 := bump_up X 2
          have nxn : ∀ j, X.π (nx + j) = none := fun j => by
            cases hp : X.π (nx + j) with
            | none => rfl
            | some a => have := r.dom _ _ hp; omega
          -- the collection of deferred calls
          have hA : ∃ (Y1 : Cx) (hq : Hp) (dP m : Nat) (markP : List DF), RH Y1 hh (nx + 2) ∧ Up X Y1 ∧ Ext b bP X h Y1 hh ∧ Y1.h = { hq with nx := hq.nx + 2 } ∧ hq.nx = X.h.nx ∧
              ((fp.ro = none ∧ X.h.new X.h.nx (.df (some [])) = some hq ∧ dP = X.h.nx ∧ markP = [DF.col X.h.nx]) ∨ (∃ p st pe nt t ps asg body, fp.ro = some p ∧ X.h.get p = some (.lp st pe nt t ps asg body dP) ∧ markP = [] ∧ hq = X.h)) ∧ Y1.π d = some (.blk dP m) ∧ L2 (DFR Y1) mark markP ∧ Y1.π (nx + 1) = none ∧ hq.get (X.h.nx + 1) = none := by
            have hro := F.ro
            split at hstep
            · rename_i hr0
              rw [hr0] at hro
              simp only [Option.some.injEq, Prod.mk.injEq] at hstep
              obtain ⟨rfl, rfl, rfl⟩ := hstep
              obtain ⟨hq, e1⟩ := new_ex X.h X.h.nx (.df (some [])) (r.fresh _ (Nat.le_refl _))
              have e2 := new_nx (k := 2) e1
              obtain ⟨g0, g1, g2⟩ := Hp.get_new e1
              obtain ⟨Y, y1, y2, y3, y4⟩ := r2.new (id := nx) (pid := X.h.nx) (m := 0) (b := .df (some [])) (by omega) (by omega) (nxn 0) (by show _ < X.h.nx + 2; omega) e2 (fun Y y1 y2 y3 u =>
                ⟨X.h.nx, 0, some [], rfl, (y3 _).2 (.inr rfl), by rw [y2]; show hq.get _ = _; rw [g1, if_pos rfl], .nil⟩)
              have hpi : Y.π nx = some (.blk X.h.nx 0) := by rw [y1]; exact if_pos rfl
              refine ⟨Y, hq, X.h.nx, 0, [.col X.h.nx], y3, u2.trans y4.up, (bump_ext X h 2 b bP).trans (y4.ext hb hbP), y2, g2, ?_, hpi, .cons ⟨_, _, hpi, rfl⟩ .nil, ?_, ?_⟩
              · exact .inl ⟨hro, e1, rfl, rfl⟩
              · rw [y1]; show (if _ then _ else _) = _; rw [if_neg (by omega)]; exact nxn 1
              · rw [g1, if_neg (by omega)]; exact r.fresh _ (by omega)
            · rename_i l0 hr0
              rw [hr0] at hro
              obtain ⟨p0, m0, hp0, hr⟩ := hro
              split at hstep
              · rename_i hg
                simp only [Option.some.injEq, Prod.mk.injEq] at hstep
                obtain ⟨rfl, rfl, rfl⟩ := hstep
                have hb0 := r.blk _ _ hg
                obtain ⟨pid, n', tP, dP, m, k1, k2, k3, k4, k5, k6⟩ := hb0
                rw [hp0] at k1; cases k1
                exact ⟨X.bump 2, X.h, dP, m, [], r2, u2, bump_ext X h 2 b bP, rfl, rfl, Or.inr ⟨_, _, _, _, _, _, _, _, hr, k3, rfl, rfl⟩, k5, .nil, nxn 1, r.fresh _ (by omega)⟩
              · cases hstep
          obtain ⟨Y1, hq, dP, m, markP, r1, u1, x1, y1h, hqn, hPI, hd, hmark, hn1, hf1⟩ := hA
          -- the loop's own block
          obtain ⟨hq2, e1⟩ := new_ex hq (X.h.nx + 1) (.lp 0 none fp.nt fp.t ps.toList asg body dP) hf1
          have e2 := new_nx (k := 2) e1
          obtain ⟨g0, g1, g2⟩ := Hp.get_new e1
          obtain ⟨Y2, y21, y22, y23, y24⟩ := r1.new (id := nx + 1) (pid := X.h.nx + 1) (m := 0) (b := .lp 0 none fr.nt fr.t ps.toList asg body d) (by omega) (by omega) hn1 (by rw [y1h]; show _ < hq.nx + 2; omega) (by rw [y1h]; exact e2) (fun Y y1 y2 y3 u =>
            ⟨X.h.nx + 1, 0, fp.t, dP, m, rfl, (y3 _).2 (.inr rfl), by rw [y2]; show hq2.get _ = _; rw [g1, if_pos rfl, F.nt], (F.t.mono u1).mono u, u.pi _ _ hd, F.big⟩)
          have hpi2 : Y2.π (nx + 1) = some (.blk (X.h.nx + 1) 0) := by rw [y21]; exact if_pos rfl
          have u12 := u1.trans y24.up
          have x2 : Ext b bP X h Y2 _ := x1.trans (y24.ext (b := b) (bP := bP) (by omega) (by omega))
          have hy2 : Y2.h = { hq2 with nx := X.h.nx + 2 } := by rw [y22, g2, hqn]
          obtain ⟨g2', as, qs, e3, hinv, hargs⟩ := invokeA_ok (va.mono u12) (vb.mono u12) (args := [.yl (nx + 1)]) (argsP := [.yl (X.h.nx + 1)]) (.cons (by simp only [VR]; exact ⟨_, _, hpi2, rfl⟩) .nil) e
          obtain ⟨o', up', h', nx', Y, oP, upP', hP', e4, ⟨N, hN⟩, run, ho, hu⟩ := R.fn e3 y23 hsz' hargs (show UMR Y2 none none from rfl)
          split at e4
          · obtain ⟨vP, rfl, hv⟩ := ho
            have hup := run.ext.full y23 (Nat.le_refl _)
            split at e4
            · rename_i st pend nt t ps' asg' body' d' hg
              replace e4 := bifN e4; obtain ⟨hst, e4⟩ := e4
              have hpi3 := hup.pi _ _ hpi2
              have hbr := run.rh.blk _ _ hg
              obtain ⟨pid, n', tP, dP', m', k1, k2, k3, k4, k5, k6⟩ := hbr
              rw [hpi3] at k1; cases k1
              obtain ⟨hP2, es⟩ := set_ex Y.h (X.h.nx + 1) (.lp 3 pend nt tP ps' asg' body' dP')
              obtain ⟨Z, z1, z2, z3, z4, z5, z6⟩ := run.rh.setLp run.big hg hpi3 k3 es b bP
              have uZ := (u12.trans hup).trans z4
              have xZ : Ext b bP X h Z _ := (x2.trans (run.ext.le (by omega) (by rw [hy2]; show _ ≤ X.h.nx + 2; omega))).trans z6
              have FZ : FR Z { fr with ds := mark ++ fr.ds } { fp with ds := markP ++ fp.ds } :=
                ⟨F.t.mono uZ, F.nt, F.big, (hmark.mono fun _ _ k => k.mono ((y24.up.trans hup).trans z4)).append (F.ds.mono fun _ _ k => k.mono uZ), F.up.mono uZ, F.ro.mono uZ⟩
              have fin2 : ∀ {ex : ExA} {exP : Pi.Ex}, K ex { fr with ds := mark ++ fr.ds } (hput h' (nx + 1) (.lp 3 pend nt t ps' asg' body' d')) nx' = some x → ExR Z ex exP → (match pend with
                    | none => some (Pi.Ex.normal, ({ fp with ds := markP ++ fp.ds } : Pi.Fr), hP2)
                    | some .ret => some (.ret, { fp with ds := markP ++ fp.ds }, hP2)
                    | some (.exit id) => some (.exit id, { fp with ds := markP ++ fp.ds }, hP2)
                    | some (.goto id) => some (.goto id, { fp with ds := markP ++ fp.ds }, hP2)
                    | _ => none) = some (exP, { fp with ds := markP ++ fp.ds }, hP2) → XOk P tab b bP (.rangeFunc g ps asg body) X h nx fp K x := fun e5 hx hp =>
                ⟨_, _, _, nx', Z, _, _, hP2, e5, ⟨N + 1, fun m FF nn hm hF hnn => by
                  obtain ⟨m, rfl⟩ : ∃ m', m = m' + 1 := ⟨m - 1, by omega⟩
                  have := hN FF nn (by omega) (by omega)
                  rw [hy2] at this
                  rw [← run.hp] at this
                  rw [Pi.exec]
                  rcases hPI with ⟨q1, q2, rfl, rfl⟩ | ⟨_, _, _, _, _, _, _, _, q1, q2, rfl, rfl⟩
                  · simp only [h1, q1, q2, e1, hinv, this, k3, hst, cond_false, es]
                    simp only [q1] at hp
                    exact hp
                  · simp only [h1, q1, q2, e1, hinv, this, k3, hst, cond_false, es]
                    simp only [q1] at hp
                    exact hp⟩, ⟨z2, z5, run.big, by have := run.le; omega, xZ⟩, FZ, hx⟩
              split at e4
              · exact fin2 e4 rfl rfl
              · exact fin2 e4 rfl rfl
              · exact fin2 e4 rfl rfl
              · exact fin2 e4 rfl rfl
              · cases e4
            · cases e4
          · cases e4
        · cases e
      · cases e
end
end Go.Proofs.YtopoaknleakdcaaGreat.Sv
namespace Go.Proofs.YtopoaknleakdcaaGreat.Sv
open Go.Proofs.YtopoaknleakdcaaGreat.Pi (PV T Hp Blk DF UM PE lget_eq lset_eq mapPur pur purl)
/-! A frame on its way out, calls, and a whole function. -/
theorem setArgs_ok {X : Cx} : ∀ {args : List V} {ps : List PV} {i : Nat} {t : T V} {tP : T PV}, VRL X args ps → TR X t tP → i + args.length ≤ 1048575 → TR X (setArgsA i args t) (Pi.setArgs i ps tP)
  | [], ps, i, t, tP, hv, ht, _ => by
    rw [hv.nil_inv]; exact ht
  | a :: l, ps, i, t, tP, hv, ht, hb => by
    obtain ⟨p, qs, rfl, h1, h2⟩ := hv.cons_inv
    simp only [List.length_cons] at hb
    show TR X (setArgsA (i + 1) l (T.put 20 t i a)) (Pi.setArgs (i + 1) qs (T.put 20 tP i p))
    exact setArgs_ok h2 (ht.put (d := i) (by omega) h1) (by omega)
theorem VRL.len {X : Cx} {vs : List V} {ps : List PV} (h : VRL X vs ps) : ps.length = vs.length := h.length.symm
theorem setParams_ok {X : Cx} {nt : Nat} (hnt : nt < 1048575) : ∀ {l : List Nat} {args : List V} {ps : List PV} {t t' : T V} {tP : T PV}, VRL X args ps → TR X t tP → setParamsA nt l args t = some t' → ∃ tP', Pi.setParams nt l ps tP = some tP' ∧ TR X t' tP'
  | [], [], ps, t, t', tP, hv, ht, e => by
    rw [hv.nil_inv]; cases e; exact ⟨tP, rfl, ht⟩
  | p :: l, a :: args, ps, t, t', tP, hv, ht, e => by
    obtain ⟨q, qs, rfl, h1, h2⟩ := hv.cons_inv
    unfold setParamsA at e
    replace e := bifY e; obtain ⟨hp, e⟩ := e
    have hp' : p < nt := by simpa using hp
    obtain ⟨tP', k1, k2⟩ := setParams_ok hnt h2 (ht.put (d := p) (by omega) h1) e
    exact ⟨tP', by rw [Pi.setParams, hp]; exact k1, k2⟩
  | [], _ :: _, _, _, _, _, _, _, e => by cases e
  | _ :: _, [], _, _, _, _, _, _, e => by cases e
section
variable {P : Program} {tab : Tab} {rec : RecA}
theorem resl_ok {β : Type} {x : β} {X : Cx} {h : H} {n : Nat} (r : RH X h n) {t : T V} {tP : T PV} (ht : TR X t tP) : ∀ {l : List ResultVar} {K : List V → Option β}, reslA P h t l K = some x → ∃ vs ps, K vs = some x ∧ Pi.resl P X.h tP l = some ps ∧ VRL X vs ps
  | [], K, e => ⟨[], [], e, rfl, .nil⟩
  | .tmp k :: l, K, e => by
    unfold reslA at e
    replace e := opt_some e; obtain ⟨v, hv, e⟩ := e
    obtain ⟨p, hp, h1⟩ := ht _ _ hv
    obtain ⟨vs, ps, e, h2, h3⟩ := resl_ok r ht e
    exact ⟨v :: vs, p :: ps, e, by simp [Pi.resl, Pi.resv, hp, h2], .cons h1 h3⟩
  | .cell a ty :: l, K, e => by
    unfold reslA at e
    split at e
    · rename_i j off hv
      obtain ⟨p, hp, h1⟩ := ht _ _ hv
      split at e
      · rename_i cs fz lk hg
        replace e := opt_some e; obtain ⟨v, hv2, e⟩ := e
        obtain ⟨pid, m, ps, fz', k1, k2, k3, k4, k5⟩ := r.blk _ _ hg
        simp only [VR] at h1
        obtain ⟨pid', m', h4, rfl⟩ := h1
        rw [k1] at h4; cases h4
        obtain ⟨q, q1, q2⟩ := partA_ok (k5.drop off) hv2
        obtain ⟨vs, ps', e, h2, h3⟩ := resl_ok r ht e
        exact ⟨v :: vs, q :: ps', e, by simp [Pi.resl, Pi.resv, hp, k3, q1, h2], .cons q2 h3⟩
      · cases e
    · cases e
theorem results_ok {X : Cx} {fn : Func} {tP : T PV} {ps : List PV} (h1 : Pi.resl P X.h tP fn.results.toList = some ps) : ∀ {vs : List V}, VRL X vs ps → ∃ pv, Pi.results P fn X.h tP = some pv ∧ VR X (match vs with
            | [v] => v
            | vs => .tup vs) pv := by
          intro vs h2
          unfold Pi.results
          rw [h1]
          match vs, ps, h2 with
          | [], [], _ => exact ⟨.tup [], rfl, by simp only [VR]; exact ⟨[], rfl, .nil⟩⟩
          | [v], [p], h2 => exact ⟨p, rfl, by obtain ⟨_, _, h, h3, _⟩ := h2.cons_inv; cases h; exact h3⟩
          | a :: b :: c, p :: q :: s, h2 => exact ⟨.tup (p :: q :: s), rfl, by simp only [VR]; exact ⟨_, rfl, h2⟩⟩
          | [], _ :: _, h2 => cases h2.nil_inv
          | _ :: _, [], h2 => obtain ⟨_, _, h, _⟩ := h2.cons_inv; cases h
          | [_], _ :: _ :: _, h2 => obtain ⟨_, _, h, _, h3⟩ := h2.cons_inv; cases h; cases h3.nil_inv
          | _ :: _ :: _, [_], h2 => obtain ⟨_, _, h, _, h3⟩ := h2.cons_inv; cases h; obtain ⟨_, _, h, _⟩ := h3.cons_inv; cases h
theorem settle_ok {X : Cx} {u : UMA} {uP : UM} (h : UMR X (some u) (some uP)) : UMR X (some (settleA u)) (some (Pi.settleP uP)) := by
  cases u with
  | ret =>
    have : some uP = some UM.ret := h
    cases this; exact h
  | pan ch =>
    obtain ⟨c, h1, h2⟩ := h
    cases h1
    cases ch with
    | nil => rw [L2.nil_inv h2]; exact ⟨[], rfl, .nil⟩
    | cons a ch =>
      obtain ⟨⟨bv, br⟩, t, rfl, h3, h4⟩ := L2.cons_inv h2
      obtain ⟨av, ar⟩ := a
      have : ar = br := h3.2
      subst this
      cases ar with
      | true => rfl
      | false => exact ⟨_, rfl, .cons h3 h4⟩
theorem leaveA_ok (R : RecAOK P tab rec) {fn : Func} {β : Type} {x : β} : ∀ {n : Nat} {ds : List DFA} {u : UMA} {t : T V} {h : H} {nx : Nat} {K : OutA → H → Nat → Option β}, leaveA P rec fn β n ds u t h nx K = some x →
    ∀ {X : Cx} {b bP : Nat} {dsP : List DF} {uP : UM} {tP : T PV}, RH X h nx → nx ≤ 1048575 → L2 (DFR X) ds dsP → UMR X (some u) (some uP) → TR X t tP → b ≤ nx → bP ≤ X.h.nx →
      ∃ o h' nx' Y oP hP', K o h' nx' = some x ∧ (∃ N, ∀ m F k, N ≤ m → N ≤ F → N ≤ k → Pi.leave P (Pi.doN P (shOf tab) F k) fn m dsP uP tP X.h = some (oP, hP')) ∧ Run b bP X h nx Y h' nx' hP' ∧ OutR Y o oP := by
  intro n
  induction n with
  | zero => intro ds u t h nx K e; cases e
  | succ n ih =>
    intro ds u t h nx K e X b bP dsP uP tP r hn hds hu ht hb hbP
    unfold leaveA at e
    split at e
    · have := L2.nil_inv hds; subst this
      split at e
      · have : some uP = some UM.ret := hu
        cases this
        replace e := resl_ok r ht e; obtain ⟨vs, ps, e, h1, h2⟩ := e
        obtain ⟨pv, k1, k2⟩ := results_ok h1 h2
        refine ⟨_, h, nx, X, .ret pv, X.h, e, ⟨1, fun m F k hm _ _ => ?_⟩, ⟨rfl, r, hn, Nat.le_refl _, Ext.refl _ _ _ _⟩, ⟨pv, rfl, k2⟩⟩
        obtain ⟨m, rfl⟩ : ∃ m', m = m' + 1 := ⟨m - 1, by omega⟩
        unfold Pi.leave
        rw [k1]
      · obtain ⟨c, h1, h2⟩ := hu
        cases h1
        refine ⟨_, h, nx, X, .pan c, X.h, e, ⟨1, fun m F k hm _ _ => ?_⟩, ⟨rfl, r, hn, Nat.le_refl _, Ext.refl _ _ _ _⟩, ⟨c, rfl, h2⟩⟩
        obtain ⟨m, rfl⟩ : ∃ m', m = m' + 1 := ⟨m - 1, by omega⟩
        rfl
    · rename_i id ds'
      obtain ⟨dP, dsP', rfl, h1, h2⟩ := L2.cons_inv hds
      obtain ⟨pid, m0, k1, rfl⟩ := h1
      split at e
      · rename_i l hg
        obtain ⟨pid', m', q, b1, b2, b3, b4⟩ := r.blk _ _ hg
        rw [k1] at b1; cases b1
        cases q with
        | none => exact b4.elim
        | some lP =>
          simp only at b4
          obtain ⟨hq, e1⟩ := set_ex X.h pid (.df none)
          obtain ⟨Y, y1, y2, y3, y4, y5⟩ := r.set (b' := .df none) (by have := r.dom _ _ k1; omega) hg trivial rfl k1 b3 (fun _ _ _ _ _ _ _ _ => by simp) e1 (fun Y z1 z2 z3 u => ⟨pid, m0, none, k1, by rw [z3]; exact b2, by rw [z2, (Hp.get_set e1).1, if_pos rfl], trivial⟩) X.h.nx
          have u := (y5 nx).up
          obtain ⟨o, h', nx', Z, oP, hP', c1, ⟨N, c2⟩, c3, c4⟩ := ih e (b := b) (bP := bP) y4 hn ((b4.append h2).mono fun _ _ k => k.mono u) (hu.mono u) (ht.mono u) hb (by rw [y2, (Hp.get_set e1).2]; exact hbP)
          refine ⟨o, h', nx', Z, oP, hP', c1, ⟨N + 1, fun m F k hm hF hk => ?_⟩, ⟨c3.hp, c3.rh, c3.big, c3.le, ((y5 nx).ext hb hbP).trans c3.ext⟩, c4⟩
          obtain ⟨m, rfl⟩ : ∃ m', m = m' + 1 := ⟨m - 1, by omega⟩
          rw [Pi.leave]
          simp only [b3, e1]
          rw [← y2]
          exact c2 m F k (by omega) (by omega) (by omega)
      · cases e
    · cases e
    · rename_i f args ds'
      obtain ⟨dP, dsP', rfl, h1, h2⟩ := L2.cons_inv hds
      obtain ⟨fP, ps, rfl, h3, h4⟩ := h1
      split at e
      · rename_i g a b'
        simp only [VR] at h3
        obtain ⟨aP, bP', rfl, h5, h6⟩ := h3
        obtain ⟨g', as, qs, e1, hinv, hargs⟩ := invokeA_ok h5 h6 h4 e
        obtain ⟨o', up', h', nx', Y, oP, upP', hP', e2, ⟨N1, hN1⟩, run, ho, hu'⟩ := R.fn e1 r hn hargs hu
        have hup := run.ext.full r (Nat.le_refl _)
        split at e2
        · rename_i v u'
          obtain ⟨vP, rfl, hv⟩ := ho
          cases upP' with
          | none => cases u' with
            | ret => cases hu'
            | pan => obtain ⟨_, h, _⟩ := hu'; cases h
          | some uP' =>
            obtain ⟨o, h'', nx'', Z, oP, hP'', c1, ⟨N, c2⟩, c3, c4⟩ := ih e2 (b := b) (bP := bP) run.rh run.big (h2.mono fun _ _ k => k.mono hup) (settle_ok hu') (ht.mono hup) (Nat.le_trans hb run.le) (Nat.le_trans hbP run.ext.nx)
            refine ⟨o, h'', nx'', Z, oP, hP'', c1, ⟨max N N1 + 1, fun m F k hm hF hk => ?_⟩, ⟨c3.hp, c3.rh, c3.big, Nat.le_trans run.le c3.le, (run.ext.le hb hbP).trans c3.ext⟩, c4⟩
            obtain ⟨m, rfl⟩ : ∃ m', m = m' + 1 := ⟨m - 1, by omega⟩
            rw [Pi.leave]
            simp only [hinv, hN1 F k (by omega) (by omega)]
            rw [← run.hp]
            exact c2 m F k (by omega) (by omega) (by omega)
        · cases e2
      · cases e
theorem TR.lf (X : Cx) : TR X .lf .lf := fun k v e => by cases e
theorem roundEnd_ok {β : Type} {x : β} {X : Cx} {h : H} {nx l lP m b bP : Nat} {jump : Option Code} {K : OutA → Option UMA → H → Nat → Option β} (r : RH X h nx) (hn : nx ≤ 1048575) (hl : X.π l = some (.blk lP m)) (e : roundEndA h nx l jump K = some x) :
    ∃ o up' h' Y oP upP' hP', K o up' h' nx = some x ∧ Pi.roundEnd X.h lP jump = some (oP, upP', hP') ∧ Run b bP X h nx Y h' nx hP' ∧ OutR Y o oP ∧ UMR Y up' upP' := by
  unfold roundEndA at e
  split at e
  · rename_i st pd nt t ps asg body d hg
    have hbr := r.blk _ _ hg
    obtain ⟨pid, n', tP, dP', m', k1, k2, k3, k4, k5, k6⟩ := hbr
    rw [hl] at k1; cases k1
    have main : ∀ st2 : Nat, K (.ret (.bool jump.isNone)) none (hput h l (.lp st2 jump nt t ps asg body d)) nx = some x → (∀ hP2, X.h.set lP (.lp st2 jump nt tP ps asg body dP') = some hP2 → Pi.roundEnd X.h lP jump = some (.ret (.bool jump.isNone), none, hP2)) →
        ∃ o up' h' Y oP upP' hP', K o up' h' nx = some x ∧ Pi.roundEnd X.h lP jump = some (oP, upP', hP') ∧ Run b bP X h nx Y h' nx hP' ∧ OutR Y o oP ∧ UMR Y up' upP' := fun st2 e1 e2 => by
      obtain ⟨hP2, es⟩ := set_ex X.h lP (.lp st2 jump nt tP ps asg body dP')
      obtain ⟨Z, z1, z2, z3, z4, z5, z6⟩ := r.setLp hn hg hl k3 es b bP
      exact ⟨_, _, _, Z, .ret (.bool jump.isNone), none, hP2, e1, e2 _ es, ⟨z2, z5, hn, Nat.le_refl _, z6⟩, ⟨_, rfl, by simp [VR]⟩, rfl⟩
    unfold Pi.roundEnd at main ⊢
    simp only [k3] at main ⊢
    cases jump with
    | none => exact main 0 e fun hP2 es => by rw [es]
    | some j => exact main 2 e fun hP2 es => by rw [es]
  · cases e
theorem doA_ok (T : TabOK P tab) (D : DrawnAOK P tab) {ann : Ann} {F0 : Nat} : ∀ n, RecAOK P tab (doA P tab ann F0 n)
  | 0 => ⟨fun e => (by cases e), fun e => (by cases e)⟩
  | n + 1 => by
    have R := doA_ok T D (ann := ann) (F0 := F0) n
    constructor
    · intro β x f up args h nx K e X upP ps r hn ha hu
      simp only [doA] at e
      replace e := opt_some e; obtain ⟨fn, hf, e⟩ := e
      replace e := opt_some e; obtain ⟨c, hc, e⟩ := e
      replace e := bifY e; obtain ⟨hb, e⟩ := e
      have hb2 := hb
      simp only [Bool.and_eq_true] at hb2
      have hlen : args.length ≤ fn.ntmps := Nat.le_of_ble_eq_true hb2.1
      have hnt : fn.ntmps < 1048575 := by simpa using hb2.2
      have hlP : ps.length = args.length := VRL.len ha
      obtain ⟨ex, fr', h', nx', Y, exP, fp', hP', q1, ⟨N, q2⟩, q3, q4, q5⟩ := exA_ok R T D F0 c e (fp := { t := Pi.setArgs 0 ps .lf, nt := fn.ntmps, ds := [], up := upP, ro := none }) r hn ⟨setArgs_ok ha (TR.lf X) (by omega), rfl, hnt, .nil, hu, rfl⟩ (Nat.le_refl _) (Nat.le_refl _)
      have go : ∀ {u : UMA} {uP : UM} {o : OutA → H → Nat → Option β}, leaveA P (doA P tab ann F0 n) fn β F0 fr'.ds u fr'.t h' nx' (fun o h nx => K o fr'.up h nx) = some x → UMR Y (some u) (some uP) →
          (∀ FF nn, N ≤ FF → N ≤ nn → ∀ {oP : Pi.Out} {hP : Hp}, Pi.leave P (Pi.doN P (shOf tab) FF nn) fn FF fp'.ds uP fp'.t hP' = some (oP, hP) → Pi.doN P (shOf tab) FF (nn + 1) (.fn f) upP ps X.h = some (oP, fp'.up, hP)) →
          ∃ o up' h' nx' Y oP upP' hP', K o up' h' nx' = some x ∧ PD P tab (.fn f) upP ps X.h (oP, upP', hP') ∧ Run nx X.h.nx X h nx Y h' nx' hP' ∧ OutR Y o oP ∧ UMR Y up' upP' := fun {u uP _} e hu hP => by
        obtain ⟨o, h2, nx2, Z, oP, hP2, c1, ⟨N2, c2⟩, c3, c4⟩ := leaveA_ok R e (b := nx') (bP := Y.h.nx) q3.rh q3.big q4.ds hu q4.t (Nat.le_refl _) (Nat.le_refl _)
        have hup := c3.ext.full q3.rh (Nat.le_refl _)
        refine ⟨o, fr'.up, h2, nx2, Z, oP, fp'.up, hP2, c1, ⟨max N N2 + 1, fun FF nn hF hnn => ?_⟩, ⟨c3.hp, c3.rh, c3.big, Nat.le_trans q3.le c3.le, q3.ext.trans (c3.ext.le q3.le q3.ext.nx)⟩, c4, q4.up.mono hup⟩
        obtain ⟨nn, rfl⟩ : ∃ m', nn = m' + 1 := ⟨nn - 1, by omega⟩
        refine hP FF nn (by omega) (by omega) ?_
        rw [← q3.hp]
        exact c2 FF FF nn (by omega) (by omega) (by omega)
      have head : ∀ FF nn, Pi.doN P (shOf tab) FF (nn + 1) (.fn f) upP ps X.h = (match (Pi.exec P (shOf tab) (Pi.doN P (shOf tab) FF nn) FF c { t := Pi.setArgs 0 ps .lf, nt := fn.ntmps, ds := [], up := upP, ro := none } X.h) with
          | some (.normal, fr, h) | some (.ret, fr, h) => (match Pi.leave P (Pi.doN P (shOf tab) FF nn) fn FF fr.ds .ret fr.t h with
            | some (o, h) => some (o, fr.up, h)
            | none => none)
          | some (.panic e, fr, h) => (match Pi.leave P (Pi.doN P (shOf tab) FF nn) fn FF fr.ds (.pan [{ v := e, recovered := false }]) fr.t h with
            | some (o, h) => some (o, fr.up, h)
            | none => none)
          | _ => none) := fun FF nn => by
        rw [Pi.doN]
        simp only [hf, hc, hlP, hb, cond_true]
        rfl
      cases ex with
      | normal =>
        have : exP = .normal := q5
        subst this
        exact go (o := fun _ _ _ => none) q1 (show UMR Y (some .ret) (some .ret) from rfl) fun FF nn hF hnn oP hP hl => by
          rw [head, q2 FF FF nn hF hF hnn]; simp only [hl]
      | ret =>
        have : exP = .ret := q5
        subst this
        exact go (o := fun _ _ _ => none) q1 (show UMR Y (some .ret) (some .ret) from rfl) fun FF nn hF hnn oP hP hl => by
          rw [head, q2 FF FF nn hF hF hnn]; simp only [hl]
      | panic v =>
        obtain ⟨p, rfl, hv⟩ := q5
        exact go (o := fun _ _ _ => none) q1 (uP := .pan [{ v := p, recovered := false }]) (show UMR Y (some (.pan [{ v := v, recovered := false }])) (some (.pan [{ v := p, recovered := false }])) from ⟨_, rfl, .cons ⟨hv, rfl⟩ .nil⟩) fun FF nn hF hnn oP hP hl => by
          rw [head, q2 FF FF nn hF hF hnn]; simp only [hl]
      | _ => cases q1
    · intro β x l args h nx K e X lP m ps r hn hl ha
      simp only [doA] at e
      split at e
      · rename_i st0 pd0 nt t psl asg body0 d0 hg
        replace e := opt_some e; obtain ⟨t1, ht1, e⟩ := e
        obtain ⟨pid, n', tP, dP, m', k1, k2, k3, k4, k5, k6⟩ := r.blk _ _ hg
        rw [hl] at k1; cases k1
        obtain ⟨tP1, s1, s2⟩ := setParams_ok k6 ha k4 ht1
        obtain ⟨ex, fr', h', nx', Y, exP, fp', hP', q1, ⟨N, q2⟩, q3, q4, q5⟩ := exA_ok R T D F0 asg e (fp := { t := tP1, nt := nt, ds := [], up := none, ro := some lP }) r hn ⟨s2, rfl, k6, .nil, rfl, ⟨_, _, hl, rfl⟩⟩ (Nat.le_refl _) (Nat.le_refl _)
        cases ex with
        | normal =>
          have : exP = .normal := q5
          subst this
          simp only at q1
          have hup := q3.ext.full r (Nat.le_refl _)
          have hlY := hup.pi _ _ hl
          split at q1
          · rename_i pend nt2 t2 ps2 asg2 body2 d2 hg2
            obtain ⟨pid, n', tP2, dP2, m2, j1, j2, j3, j4, j5, j6⟩ := q3.rh.blk _ _ hg2
            rw [hlY] at j1; cases j1
            obtain ⟨hP2, es⟩ := set_ex Y.h lP (.lp 1 pend nt2 tP2 ps2 asg2 body2 dP2)
            obtain ⟨Z, z1, z2, z3, z4, z5, z6⟩ := q3.rh.setLp q3.big hg2 hlY j3 es nx X.h.nx
            obtain ⟨ex3, fr3, h3, nx3, Y3, exP3, fp3, hP3, w1, ⟨N3, w2⟩, w3, w4, w5⟩ := exA_ok R T D F0 body0 q1 (fp := fp') z5 q3.big (q4.mono z4) (Nat.le_refl _) (bP := X.h.nx) (by rw [z2, (Hp.get_set es).2]; exact q3.ext.nx)
            have x3 := (q3.ext.trans z6).trans (w3.ext.le (b := nx) (bP := X.h.nx) q3.le (Nat.le_refl _))
            have hl3 : Y3.π l = some (.blk lP m) := x3.up.pi _ _ (by rw [Cx.low_eq (r.dom _ _ hl)]; exact hl)
            have fin : ∀ {jump : Option Code}, roundEndA h3 nx3 l jump K = some x →
                (∀ {rr}, Pi.roundEnd hP3 lP jump = some rr → ∀ FF nn, max N N3 ≤ FF → max N N3 ≤ nn → Pi.doN P (shOf tab) FF (nn + 1) (.yl lP) none ps X.h = some rr) →
                ∃ o up' h' nx' Y oP upP' hP', K o up' h' nx' = some x ∧ PD P tab (.yl lP) none ps X.h (oP, upP', hP') ∧ Run nx X.h.nx X h nx Y h' nx' hP' ∧ OutR Y o oP ∧ UMR Y up' upP' := fun e hh => by
              obtain ⟨o, up', h4, Y4, oP, upP', hP4, v1, v2, v3, v4, v5⟩ := roundEnd_ok (b := nx) (bP := X.h.nx) w3.rh w3.big hl3 e
              rw [w3.hp] at v2
              refine ⟨o, up', h4, nx3, Y4, oP, upP', hP4, v1, ⟨max N N3 + 1, fun FF nn hF hnn => ?_⟩, ⟨v3.hp, v3.rh, v3.big, Nat.le_trans q3.le (Nat.le_trans w3.le v3.le), x3.trans v3.ext⟩, v4, v5⟩
              obtain ⟨nn, rfl⟩ : ∃ m', nn = m' + 1 := ⟨nn - 1, by omega⟩
              exact hh v2 FF nn (by omega) (by omega)
            have head : ∀ FF nn, max N N3 ≤ FF → max N N3 ≤ nn → Pi.doN P (shOf tab) FF (nn + 1) (.yl lP) none ps X.h = (match some (exP3, fp3, hP3) with
                | some (.normal, _, h) => Pi.roundEnd h lP none
                | some (.ret, _, h) => Pi.roundEnd h lP (some .ret)
                | some (.exit id, _, h) => Pi.roundEnd h lP (some (.exit id))
                | some (.goto id, _, h) => Pi.roundEnd h lP (some (.goto id))
                | _ => none) := fun FF nn hF hnn => by
              have a1 := q2 FF FF nn (by omega) (by omega) (by omega)
              rw [← q3.hp] at a1
              have a2 := w2 FF FF nn (by omega) (by omega) (by omega)
              rw [z2] at a2
              rw [Pi.doN]
              simp only [k3, s1, a1, j3, es, a2]
              rfl
            cases ex3 with
            | normal =>
              have : exP3 = .normal := w5
              subst this
              exact fin w1 fun hr FF nn h1 h2 => (head FF nn h1 h2).trans hr
            | ret =>
              have : exP3 = .ret := w5
              subst this
              exact fin w1 fun hr FF nn h1 h2 => (head FF nn h1 h2).trans hr
            | exit i =>
              have : exP3 = .exit i := w5
              subst this
              exact fin w1 fun hr FF nn h1 h2 => (head FF nn h1 h2).trans hr
            | goto i =>
              have : exP3 = .goto i := w5
              subst this
              exact fin w1 fun hr FF nn h1 h2 => (head FF nn h1 h2).trans hr
            | panic => cases w1
          · cases q1
        | _ => cases q1
      · cases e
theorem DX.wide {hh : Hp} {Q Q' : Nat → Prop} : ∀ {c : Ty} {x : c.den} {ps : List PV}, DX hh Q Q' c x ps → DX hh (fun _ => True) (fun _ => True) c x ps
  | .int _, _, _, e => e
  | .bool, _, _, e => e
  | .str, _, _, e => e
  | .unit, _, _, e => e
  | .pair _ _, _, _, ⟨p, q, e, h1, h2⟩ => ⟨p, q, e, DX.wide h1, DX.wide h2⟩
  | .sl _ _, _, _, ⟨p, e, h⟩ => ⟨p, e, by
    rcases h with h | h | ⟨pid, off, len, es, ex, fz, h1, h2, h3, h4, h5, h6⟩
    · exact .inl h
    · exact .inr (.inl h)
    · exact .inr (.inr ⟨pid, off, len, es, ex, fz, h1, trivial, h3, h4, h5, h6.mono fun _ _ k => k.mono fun _ _ k => DR.mono (fun q es ex fz hq hg => ⟨⟨fz, hg⟩, trivial⟩) k⟩)⟩
theorem domX.wide {hh : Hp} {Q Q' : Nat → Prop} : ∀ {l : List (Bool × Ty)} {y : domDen l} {ps : List PV}, domX hh Q Q' l y ps → domX hh (fun _ => True) (fun _ => True) l y ps
  | [], _, _, h => h
  | [p], _, _, ⟨a, h1, h2⟩ => ⟨a, h1, h2.mono fun _ _ k => k.wide⟩
  | p :: q :: r, _, _, ⟨a, t, h1, h2, h3⟩ => ⟨a, t, h1, h2.mono fun _ _ k => k.wide, domX.wide h3⟩
def cx0 : Cx := { π := fun _ => none, h := hp0, O := fun _ => False }
theorem rh0 : RH cx0 .lf 0 := ⟨fun _ _ h => (by cases h), fun _ _ _ _ _ _ _ h => (by cases h), fun _ _ h => (by cases h), fun _ _ => rfl, fun _ h => h.elim⟩
theorem runA_ok (T : TabOK P tab) (D : DrawnAOK P tab) {ann : Ann} {F0 n : Nat} {f : FuncId} {dom cod : List (Bool × Ty)} {x : domDen dom} {y : domDen cod} (e : runA P tab ann F0 n f dom cod x = some y) {as : List PV} (ha : domP dom x as) :
    ∃ r up hR, PD P tab (.fn f) none as hp0 (.ret r, up, hR) ∧ resX hR cod y r := by
  unfold runA at e
  obtain ⟨o, up', h', nx', Y, oP, upP', hP', e1, pd, run, ho, _⟩ := (doA_ok T D n).fn e rh0 (Nat.zero_le _) (domP_vals ha) (show UMR cx0 none none from rfl)
  split at e1
  · rename_i v
    obtain ⟨p, rfl, hv⟩ := ho
    refine ⟨p, upP', hP', pd, ?_⟩
    rw [← run.hp]
    have dec : ∀ (vs : List V) (ps : List PV), VRL Y vs ps → decArgs h' cod vs some = some y → domX Y.h (fun _ => True) (fun _ => True) cod y ps := fun vs ps hvs hd => by
      obtain ⟨z, k1, k2⟩ := decArgs_ok (Q := fun _ => True) run.rh (fun _ _ => trivial) (fun _ _ _ _ _ => trivial) hvs hd
      cases k1; exact k2.wide
    match cod, y, e1, dec with
    | [], y, e1, dec =>
      simp only at e1
      split at e1
      · simp only [VR] at hv
        obtain ⟨ps, rfl, h2⟩ := hv
        exact ⟨ps, rfl, dec _ _ h2 e1⟩
      · cases e1
    | [c], y, e1, dec =>
      obtain ⟨a, h1, h2⟩ := dec _ _ (.cons hv .nil) e1
      cases h1; exact h2
    | c :: d :: l, y, e1, dec =>
      simp only at e1
      split at e1
      · simp only [VR] at hv
        obtain ⟨ps, rfl, h2⟩ := hv
        exact ⟨ps, rfl, dec _ _ h2 e1⟩
      · unfold decArgs at e1
        simp only at e1
        replace e1 := decE_ok (Q := fun _ => True) run.rh (fun _ _ _ _ _ => trivial) (fun _ _ => trivial) hv e1
        obtain ⟨z, k1, k2⟩ := e1
        cases l <;> cases k1
  · cases e1
end
end Go.Proofs.YtopoaknleakdcaaGreat.Sv
namespace Go.Proofs.YtopoaknleakdcaaGreat.Sv
open Go.Proofs.YtopoaknleakdcaaGreat.Pi (PV T Hp Blk DF UM PE lget_eq lset_eq mapPur pur purl)
/-! Operations on a part of the heap. -/
def re (hs : Hp) : Pi.R → Pi.R
  | .val v _ => .val v hs
  | .skip _ => .skip hs
  | r => r
section
variable {P : Program} {h hs : Hp}
theorem re_vl {o : Option PV} : Pi.vl o hs = (Pi.vl o h).map (re hs) := by cases o <;> rfl
theorem re_bif {c : Bool} {v : PV} : (bif c then some (Pi.R.val v hs) else none) = (bif c then some (Pi.R.val v h) else none).map (re hs) := by cases c <;> rfl
theorem re_none {α : Type} {f : α → α} : (none : Option α) = (none : Option α).map f := rfl
theorem re_pick {c a b : PV} : Pi.evPick hs c a b = (Pi.evPick h c a b).map (re hs) := by unfold Pi.evPick; split <;> rfl
theorem re_build {ty : TypeId} {ps : List (Nat × PV)} : Pi.evBuild P hs ty ps = (Pi.evBuild P h ty ps).map (re hs) := by
  unfold Pi.evBuild
  split
  · cases hc : (Array.toList _).all _ with
    | true => simp only [cond_true]; split <;> (try rfl); rename_i pl _; cases Pi.fillP _ pl <;> rfl
    | false => rfl
  · split
    · rename_i n _
      cases Nat.blt 0 n with
      | true => simp only [cond_true]; cases Pi.fillP _ _ <;> rfl
      | false => rfl
    · rfl
  · rfl
theorem re_nil {p : PV} : Pi.evNil hs p = (Pi.evNil h p).map (re hs) := by unfold Pi.evNil; split <;> rfl
theorem re_bin {op : BinOp} {ty : TypeId} {x y : Operand} {a b : PV} : Pi.evBin P hs op ty x y a b = (Pi.evBin P h op ty x y a b).map (re hs) := by
  unfold Pi.evBin
  split
  · cases Pi.isConstO x || Pi.isConstO y <;> simp only [cond_true, cond_false]
    · rfl
    · exact re_vl
  · cases P.eqGuardType P.depth ty <;> simp only [cond_true, cond_false]
    · exact re_vl
    · rfl
  · exact re_vl
theorem re_convert {s d : TypeId} {x : PV} : Pi.evConvert P hs s d x = (Pi.evConvert P h s d x).map (re hs) := by unfold Pi.evConvert; split <;> rfl
theorem re_ifc {ty : TypeId} {v : PV} : Pi.evIfc P hs ty v = (Pi.evIfc P h ty v).map (re hs) := by unfold Pi.evIfc; split <;> rfl
theorem re_makeFunc {f : Fn} {a b : List PV} : Pi.evMakeFunc hs f a b = (Pi.evMakeFunc h f a b).map (re hs) := by unfold Pi.evMakeFunc; split <;> rfl
theorem re_fieldAddr {s : TypeId} {x : PV} {f : Nat} : Pi.evFieldAddr P hs s x f = (Pi.evFieldAddr P h s x f).map (re hs) := by
  unfold Pi.evFieldAddr
  split
  · split
    · split
      · rename_i n _
        cases Nat.beq n 0 with
        | true => rfl
        | false => simp only [cond_false]; split <;> rfl
      · rfl
    · rfl
  · rfl
theorem re_field {s : TypeId} {x : PV} {f : Nat} : Pi.evField P hs s x f = (Pi.evField P h s x f).map (re hs) := by
  unfold Pi.evField
  split
  · split
    · exact re_vl
    · rfl
  · rfl
theorem re_index {s : TypeId} {x i : PV} : Pi.evIndex P hs s x i = (Pi.evIndex P h s x i).map (re hs) := by
  unfold Pi.evIndex
  split
  · rename_i len e cs k _ _
    cases Nat.blt k len with
    | true =>
      simp only [cond_true]
      split
      · exact re_vl
      · rfl
    | false => rfl
  · split <;> rfl
  · rfl
theorem re_assert {ty : TypeId} {v : PV} {ok : Bool} : Pi.evAssert P hs ty v ok = (Pi.evAssert P h ty v ok).map (re hs) := by
  have z : ∀ {e : TypeId}, (bif ok then (match Pi.zeroEl P e with
      | some z => some (Pi.R.val (.tup [z, .bool false]) hs)
      | none => none) else none) = (bif ok then (match Pi.zeroEl P e with
      | some z => some (Pi.R.val (.tup [z, .bool false]) h)
      | none => none) else none).map (re hs) := by
    intro e
    cases ok with
    | true => simp only [cond_true]; split <;> rfl
    | false => rfl
  unfold Pi.evAssert
  split
  · split
    · split
      · split
        · rfl
        · exact z
      · rfl
    · exact z
    · rfl
  · split
    · rename_i u a
      cases Nat.beq u ty with
      | true => rfl
      | false => exact z
    · exact z
    · rfl
  · rfl
theorem re_extract {x : PV} {i : Nat} : Pi.evExtract hs x i = (Pi.evExtract h x i).map (re hs) := by
  unfold Pi.evExtract
  split
  · exact re_vl
  · rfl
theorem re_load {ty : TypeId} {p : PV} (hf : ∀ q ∈ Pi.footV p, hs.get q = h.get q) : Pi.evLoad P hs ty p = (Pi.evLoad P h ty p).map (re hs) := by
  unfold Pi.evLoad
  cases p with
  | ptr j off =>
    simp only
    rw [hf j (by simp [Pi.footV])]
    split
    · exact re_vl
    · rfl
  | view cs => exact re_vl
  | ept j i off =>
    simp only
    rw [hf j (by simp [Pi.footV])]
    split
    · split
      · exact re_vl
      · rfl
    · rfl
  | _ => rfl
theorem re_indexAddr {ty : TypeId} {x i : PV} (hf : ∀ q ∈ Pi.footV x, hs.get q = h.get q) : Pi.evIndexAddr P hs ty x i = (Pi.evIndexAddr P h ty x i).map (re hs) := by
  unfold Pi.evIndexAddr
  split
  · rename_i e k _ _
    split
    · rename_i n _
      split
      · split
        · rename_i el _
          cases Nat.beq el.cells.length n <;> rfl
        · rfl
      · rename_i j off len
        rw [hf j (by simp [Pi.footV])]
        cases Nat.blt k len with
        | true =>
          simp only [cond_true]
          split
          · split
            · rename_i el _
              cases Nat.beq el.cells.length n <;> rfl
            · rfl
          · rfl
        | false => rfl
      · rfl
    · rfl
  · rename_i len e k _ _
    split
    · cases Nat.blt k len with
      | true => simp only [cond_true]; split <;> rfl
      | false => rfl
    · rfl
  · rfl
theorem re_slice {ty : TypeId} {x : PV} {lo hi : Option PV} (hf : ∀ q ∈ Pi.footV x, hs.get q = h.get q) : Pi.evSlice P hs ty x lo hi none = (Pi.evSlice P h ty x lo hi none).map (re hs) := by
  unfold Pi.evSlice
  split
  · split
    · exact re_bif
    · rfl
  · split
    · rfl
    · rename_i n _
      split
      · split
        · rename_i hh _ _ _
          cases (none : Option PV).isSome && !hi.isSome <;> rfl
        · rfl
      · rename_i full es
        cases !Pi.elOk n es with
        | true => rfl
        | false =>
          simp only [cond_false]
          split
          · rename_i l hh _ _
            cases Nat.ble hh es.length && Nat.ble l hh <;> rfl
          · rfl
      · rename_i j off len
        rw [hf j (by simp [Pi.footV])]
        split
        · rename_i es ex fz _
          cases !Pi.elOk n es with
          | true => rfl
          | false =>
            simp only [cond_false]
            split
            · rename_i l hh _ _
              cases !Nat.ble l hh || !Nat.ble (off + hh) es.length with
              | true => rfl
              | false =>
                simp only [cond_false]
                cases Nat.blt (off + l) es.length <;> rfl
            · rfl
        · rfl
      · rfl
  · rfl
theorem re_e1 {t : T PV} {x : Operand} {k k' : PV → Option Pi.R} (f : ∀ p, Pi.evs t x = some p → k' p = (k p).map (re hs)) : Pi.e1 t x k' = (Pi.e1 t x k).map (re hs) := by
  unfold Pi.e1
  split
  · rename_i p hp; exact f p hp
  · rfl
theorem re_e2 {t : T PV} {x y : Operand} {k k' : PV → PV → Option Pi.R} (f : ∀ p q, Pi.evs t x = some p → Pi.evs t y = some q → k' p q = (k p q).map (re hs)) : Pi.e2 t x y k' = (Pi.e2 t x y k).map (re hs) := by
  unfold Pi.e2
  split
  · rename_i p q hp hq; exact f p q hp hq
  · rfl
theorem re_e3 {t : T PV} {x y z : Operand} {k k' : PV → PV → PV → Option Pi.R} (f : ∀ p q r, k' p q r = (k p q r).map (re hs)) : Pi.e3 t x y z k' = (Pi.e3 t x y z k).map (re hs) := by
  unfold Pi.e3
  split
  · exact f _ _ _
  · rfl
theorem foot1 {t : T PV} {x : Operand} {l : List Operand} {p : PV} (hp : Pi.evs t x = some p) : ∀ q ∈ Pi.footV p, q ∈ Pi.footO t (x :: l) := fun q hq => by
  simp only [Pi.footO, hp]; exact List.mem_append_left _ hq
theorem re_builtin {id : Nat} {b : Builtin} {ats : Array TypeId} {args : List PV} (hb : b = .len ∨ b = .cap ∨ b = .max ∨ b = .min) (hf : ∀ p ∈ args, ∀ q ∈ Pi.footV p, hs.get q = h.get q) : Pi.pbuiltin P hs id b ats args = (Pi.pbuiltin P h id b ats args).map (re hs) := by
  unfold Pi.pbuiltin
  rcases hb with rfl | rfl | rfl | rfl
  · simp only
    split
    · rename_i x t _
      split
      · rename_i j _
        rw [hf (.mp j) (by simp) j (by simp [Pi.footV])]
        split <;> rfl
      all_goals rfl
    · rfl
  · simp only
    split
    · rename_i x t _
      split
      · rename_i j off ln _
        rw [hf (.own j off ln) (by simp) j (by simp [Pi.footV])]
        split <;> rfl
      all_goals rfl
    · rfl
  · simp only
    split
    · cases Pi.foldInt _ _ _ _ <;> rfl
    · rfl
    · rfl
  · simp only
    split
    · cases Pi.foldInt _ _ _ _ <;> rfl
    · rfl
    · rfl
theorem evl_mem {t : T PV} : ∀ {l : List Operand} {ps : List PV}, Pi.evl t l = some ps → ∀ p ∈ ps, ∀ q ∈ Pi.footV p, q ∈ Pi.footO t l
  | [], ps, e, p, hp, q, hq => by cases e; cases hp
  | o :: l, ps, e, p, hp, q, hq => by
    unfold Pi.evl at e
    split at e
    · rename_i a as h1 h2
      cases e
      rcases List.mem_cons.1 hp with rfl | hp
      · simp only [Pi.footO, h1]; exact List.mem_append_left _ hq
      · simp only [Pi.footO, h1]; exact List.mem_append_right _ (evl_mem h2 p hp q hq)
    · cases e
theorem evalOp_re {t : T PV} {id : Nat} {o : Oper} (hc : clsOp o.op ≤ 1) (hf : ∀ q ∈ Pi.foot t h o.op, hs.get q = h.get q) : Pi.evalOp P t hs id o = (Pi.evalOp P t h id o).map (re hs) := by
  unfold Pi.evalOp
  generalize o.op = op at hc hf
  cases op with
  | move x => exact re_vl
  | assign x => exact re_vl
  | pick c a b => exact re_e3 fun _ _ _ => re_pick
  | build ty ps =>
    simp only
    split
    · exact re_build
    · rfl
  | nilCheck x => exact re_e1 fun _ _ => re_nil
  | binOp _ _ x y _ => exact re_e2 fun _ _ _ _ => re_bin
  | unOp _ _ x => exact re_e1 fun _ _ => re_vl
  | convert _ _ x => exact re_e1 fun _ _ => re_convert
  | makeInterface _ x => exact re_e1 fun _ _ => re_ifc
  | makeFunc f a b =>
    simp only
    split
    · exact re_makeFunc
    · rfl
  | fieldAddr _ x _ => exact re_e1 fun _ _ => re_fieldAddr
  | field _ x _ => exact re_e1 fun _ _ => re_field
  | index _ x y => exact re_e2 fun _ _ _ _ => re_index
  | typeAssert x _ _ _ => exact re_e1 fun _ _ => re_assert
  | extract x _ => exact re_e1 fun _ _ => re_extract
  | load _ x => exact re_e1 fun p hp => re_load fun q hq => hf q (foot1 hp q hq)
  | indexAddr _ x y => exact re_e2 fun p p' hp _ => re_indexAddr fun q hq => hf q (foot1 hp q hq)
  | slice ty x lo hi mx =>
    cases mx with
    | some _ => simp [clsOp] at hc
    | none =>
      simp only
      split
      · rename_i lo' hi' mx' _ _ hmx
        cases hmx
        exact re_e1 fun p hp => re_slice fun q hq => hf q (foot1 hp q hq)
      · rfl
  | call c =>
    simp only
    split
    · rename_i args hargs
      cases hcal : c.callee with
      | builtin b =>
        simp only [clsOp, hcal] at hc
        simp only [Pi.foot, hcal] at hf
        refine re_builtin ?_ fun p hp q hq => hf q (evl_mem hargs p hp q hq)
        cases b <;> simp at hc ⊢
      | value _ => simp [clsOp, hcal] at hc
      | invoke _ _ => simp [clsOp, hcal] at hc
    · rfl
  | makeMap _ r => cases r <;> simp [clsOp] at hc
  | _ => simp [clsOp] at hc
theorem new_low {id : Nat} {b : Blk} {h1 : Hp} (hid : h.get id = none → hs.get id = none) (e : h.new id b = some h1) : ∃ h1', hs.new id b = some h1' :=
  new_ex hs id b (hid (Hp.get_new e).1)
theorem store_low {ty : TypeId} {p v : PV} {r : Pi.R} (hf : ∀ q ∈ Pi.footV p, hs.get q = h.get q) (e : Pi.evStore P h ty p v = some r) : ∃ h1', Pi.evStore P hs ty p v = some (.skip h1') := by
  have st : ∀ (j : Nat) (b : Blk), ∃ h1', (hs.set j b).map Pi.R.skip = some (.skip h1') := fun j b => by
    obtain ⟨h1, e⟩ := set_ex hs j b
    exact ⟨h1, by rw [e]; rfl⟩
  unfold Pi.evStore at e ⊢
  split at e
  · rename_i n hn
    try simp only [hn]
    replace e := bifN e; obtain ⟨hb, e⟩ := e
    rw [hb]
    simp only [cond_false]
    cases p with
    | ptr j off =>
      simp only at e ⊢
      rw [hf j (by simp [Pi.footV])]
      split at e
      · rename_i cs hg
        try simp only [hg]
        replace e := bifY e; obtain ⟨hb, e⟩ := e
        rw [hb]
        simp only [cond_true]
        exact st _ _
      · cases e
    | ept j i off =>
      simp only at e ⊢
      rw [hf j (by simp [Pi.footV])]
      split at e
      · rename_i es ex hg
        try simp only [hg]
        split at e
        · rename_i el hel
          try simp only [hel]
          replace e := bifY e; obtain ⟨hb, e⟩ := e
          rw [hb]
          simp only [cond_true]
          cases el with
          | agg cs => exact st _ _
          | _ =>
            dsimp only at e ⊢
            split at e
            · rename_i c hc
              replace e := bifY e; obtain ⟨hb, e⟩ := e
              try simp only [hc]
              rw [hb]
              simp only [cond_true]
              cases c <;> first | exact st _ _ | cases e
            · cases e
        · cases e
      · cases e
    | _ => cases e
  · cases e
/-- what succeeds on the heap succeeds on the part that is named -/
theorem evalOp_low {t : T PV} {id : Nat} {o : Oper} {r : Pi.R} (hc : clsOp o.op ≤ 3) (hf : ∀ q ∈ Pi.foot t h o.op, hs.get q = h.get q) (hid : h.get id = none → hs.get id = none) (e : Pi.evalOp P t h id o = some r) :
    (∀ v h1, r = .val v h1 → ∃ v' h1', Pi.evalOp P t hs id o = some (.val v' h1')) ∧ (∀ h1, r = .skip h1 → ∃ h1', Pi.evalOp P t hs id o = some (.skip h1')) := by
  have hcase : clsOp o.op ≤ 1 ∨ clsOp o.op = 2 ∨ clsOp o.op = 3 := by omega
  rcases hcase with hc | hc | hc
  · have := evalOp_re (P := P) (id := id) hc hf
    rw [e] at this
    exact ⟨fun v h1 hr => ⟨v, hs, by rw [this, hr]; rfl⟩, fun h1 hr => ⟨hs, by rw [this, hr]; rfl⟩⟩
  · have nw : ∀ {b : Blk} {g : Hp → Pi.R}, (h.new id b).map g = some r → (∃ v, ∀ h, g h = .val v h) → (∀ v h1, r = .val v h1 → ∃ v' h1', (hs.new id b).map g = some (.val v' h1')) ∧ (∀ h1, r = .skip h1 → ∃ h1', (hs.new id b).map g = some (.skip h1')) := fun {b g} e ⟨v, hg⟩ => by
      cases hn : h.new id b with
      | none => rw [hn] at e; cases e
      | some h1 =>
        rw [hn] at e; cases e
        obtain ⟨h1', e1⟩ := new_low hid hn
        exact ⟨fun _ _ _ => ⟨v, h1', by rw [e1]; simp [hg]⟩, fun _ hr => by rw [hg] at hr; cases hr⟩
    unfold Pi.evalOp at e ⊢
    generalize o.op = op at hc hf e
    cases op with
    | alloc ty =>
      dsimp only at e ⊢
      unfold Pi.evAlloc at e ⊢
      split at e
      · rename_i cs hz
        try simp only [hz]
        exact nw e ⟨_, fun _ => rfl⟩
      · cases e
    | box _ x =>
      simp only [Pi.e1] at e ⊢
      split at e
      · rename_i v hv
        try simp only [hv]
        unfold Pi.evBox at e ⊢
        split at e
        · cases e
        · exact nw e ⟨_, fun _ => rfl⟩
      · cases e
    | makeMap _ r =>
      cases r with
      | none => exact nw e ⟨_, fun _ => rfl⟩
      | some _ => simp [clsOp] at hc
    | makeSlice _ x y =>
      simp only [Pi.e2] at e ⊢
      split at e
      · rename_i a b ha hb
        try simp only [ha, hb]
        unfold Pi.evMake at e ⊢
        split at e
        · split at e
          · split at e
            · rename_i z hz
              try simp only [hz]
              replace e := bifY e; obtain ⟨hb, e⟩ := e
              rw [hb]
              simp only [cond_true]
              exact nw e ⟨_, fun _ => rfl⟩
            · cases e
          · cases e
        · cases e
      · cases e
    | slice _ _ _ _ mx => cases mx <;> simp [clsOp] at hc
    | call c =>
      simp only [clsOp] at hc
      split at hc
      · split at hc <;> cases hc
      · cases hc
    | _ => simp [clsOp] at hc
  · unfold Pi.evalOp at e ⊢
    generalize o.op = op at hc hf e
    cases op with
    | store ty a x =>
      simp only [Pi.e2] at e ⊢
      split at e
      · rename_i p v hp hv
        try simp only [hp, hv]
        have := store_low (hs := hs) (fun q hq => hf q (foot1 hp q hq)) e
        refine ⟨fun v h1 hr => ?_, fun _ _ => this⟩
        exfalso
        subst hr
        have st : ∀ {j : Nat} {b : Blk}, (h.set j b).map Pi.R.skip = some (.val v h1) → False := fun {j b} e => by
          cases hset : h.set j b with
          | none => rw [hset] at e; cases e
          | some _ => rw [hset] at e; cases e
        unfold Pi.evStore at e
        split at e
        · replace e := bifN e; obtain ⟨_, e⟩ := e
          split at e
          · split at e
            · replace e := bifY e; exact st e.2
            · cases e
          · split at e
            · split at e
              · replace e := bifY e; obtain ⟨_, e⟩ := e
                split at e
                · exact st e
                · split at e
                  · replace e := bifY e; obtain ⟨_, e⟩ := e
                    split at e
                    · cases e
                    · cases e
                    · exact st e
                  · cases e
              · cases e
            · cases e
          · cases e
        · cases e
      · cases e
    | slice _ _ _ _ mx => cases mx <;> simp [clsOp] at hc
    | makeMap _ r => cases r <;> simp [clsOp] at hc
    | call c =>
      simp only [clsOp] at hc
      split at hc
      · split at hc <;> cases hc
      · cases hc
    | _ => simp [clsOp] at hc
end
end Go.Proofs.YtopoaknleakdcaaGreat.Sv
namespace Go.Proofs.YtopoaknleakdcaaGreat.Sv
open Go.Proofs.YtopoaknleakdcaaGreat.Pi (PV T Hp Blk DF UM PE lget_eq lset_eq mapPur pur purl)
/-! Regions whose order is drawn. -/
section
variable {P : Program} {h hs : Hp}
theorem mapPur_low {f g : PV → Option (PV × List Nat)} : ∀ {ps qs : List PV} {l : List Nat}, (∀ p q l', f p = some (q, l') → (∀ x ∈ l', x ∈ l) → g p = some (q, l')) → mapPur f ps = some (qs, l) → mapPur g ps = some (qs, l)
  | [], qs, l, _, e => e
  | p :: ps, qs, l, hfg, e => by
    unfold mapPur at e ⊢
    split at e
    · rename_i q a qs' b h1 h2
      cases e
      rw [hfg _ _ _ h1 fun x hx => List.mem_append_left _ hx, mapPur_low (fun p q l' h hl => hfg p q l' h fun x hx => List.mem_append_right _ (hl x hx)) h2]
    · cases e
theorem pur_low : ∀ (n : Nat) (p : PV) (q : PV) (l : List Nat), (∀ x ∈ l, hs.get x = h.get x) → pur h n p = some (q, l) → pur hs n p = some (q, l)
  | 0, p, q, l, hl, e => by simp [pur] at e
  | n + 1, p, q, l, hl, e => by
    have ih : ∀ {ps qs : List PV} {l' : List Nat}, (∀ x ∈ l', x ∈ l) → mapPur (pur h n) ps = some (qs, l') → mapPur (pur hs n) ps = some (qs, l') := fun hm e =>
      mapPur_low (fun p q l2 h1 h2 => pur_low n p q l2 (fun x hx => hl x (hm x (h2 x hx))) h1) e
    cases p with
    | agg cs => simp only [pur] at e ⊢; obtain ⟨⟨x, l'⟩, hx, hr⟩ := Pi.mapOpt e; cases hr; rw [ih (fun _ h => h) hx]; rfl
    | tup cs => simp only [pur] at e ⊢; obtain ⟨⟨x, l'⟩, hx, hr⟩ := Pi.mapOpt e; cases hr; rw [ih (fun _ h => h) hx]; rfl
    | ifc t x => simp only [pur] at e ⊢; obtain ⟨⟨y, l'⟩, hy, hr⟩ := Pi.mapOpt e; cases hr; rw [pur_low n _ _ _ hl hy]; rfl
    | fn f a b =>
      simp only [pur] at e ⊢
      split at e
      · rename_i x l1 y m h1 h2
        cases e
        rw [ih (fun x h => List.mem_append_left _ h) h1, ih (fun x h => List.mem_append_right _ h) h2]
      · cases e
    | own j off len =>
      simp only [pur] at e ⊢
      split at e
      · rename_i es ex fz hb
        replace e := bifY e; obtain ⟨hc, e⟩ := e
        obtain ⟨⟨x, l'⟩, hx, hr⟩ := Pi.mapOpt e; cases hr
        rw [hl j (by simp), hb]
        simp only [hc, cond_true]
        rw [ih (fun x h => List.mem_cons_of_mem _ h) hx]; rfl
      · cases e
    | ptr j off =>
      simp only [pur] at e ⊢
      split at e
      · rename_i cs fz hb
        replace e := bifY e; obtain ⟨hc, e⟩ := e
        obtain ⟨⟨x, l'⟩, hx, hr⟩ := Pi.mapOpt e; cases hr
        rw [hl j (by simp), hb]
        simp only [hc, cond_true]
        rw [ih (fun x h => List.mem_cons_of_mem _ h) hx]; rfl
      · cases e
    | ept j i off =>
      simp only [pur] at e ⊢
      split at e
      · rename_i es ex fz hb
        split at e
        · rename_i el hel
          replace e := bifY e; obtain ⟨hc, e⟩ := e
          obtain ⟨⟨x, l'⟩, hx, hr⟩ := Pi.mapOpt e; cases hr
          rw [hl j (by simp), hb]
          simp only [hel, hc, cond_true]
          rw [ih (fun x h => List.mem_cons_of_mem _ h) hx]; rfl
        · cases e
      · cases e
    | yl _ => simp [pur] at e
    | mp _ => simp [pur] at e
    | _ => exact e
theorem purl_low : ∀ {ps qs : List PV} {l : List Nat}, (∀ x ∈ l, hs.get x = h.get x) → purl h ps = some (qs, l) → purl hs ps = some (qs, l)
  | [], qs, l, _, e => e
  | p :: ps, qs, l, hl, e => by
    unfold purl at e ⊢
    split at e
    · rename_i q a qs' b k1 k2
      cases e
      rw [pur_low _ _ _ _ (fun x hx => hl x (List.mem_append_left _ hx)) k1, purl_low (fun x hx => hl x (List.mem_append_right _ hx)) k2]
    · cases e
theorem over_ex (h1 : Hp) : ∀ (l : List Nat) (h : Hp), ∃ h2, Pi.over h1 l h = some h2 ∧ h2.nx = h.nx
  | [], h => ⟨h, rfl, rfl⟩
  | j :: l, h => by
    unfold Pi.over
    split
    · rename_i b hb
      obtain ⟨h3, e3⟩ := set_ex h j b
      obtain ⟨h2, e2, e4⟩ := over_ex h1 l h3
      exact ⟨h2, by rw [e3]; exact e2, by rw [e4]; exact (Hp.get_set e3).2⟩
    · exact over_ex h1 l h
theorem unfrozen_sub {h : Hp} : ∀ {l : List Nat} {x : Nat}, x ∈ Pi.unfrozen h l → x ∈ l
  | [], x, hx => by simp [Pi.unfrozen] at hx
  | j :: l, x, hx => by
    unfold Pi.unfrozen at hx
    split at hx
    · exact List.mem_cons_of_mem _ (unfrozen_sub hx)
    · exact List.mem_cons_of_mem _ (unfrozen_sub hx)
    · rcases List.mem_cons.1 hx with rfl | hx
      · simp
      · exact List.mem_cons_of_mem _ (unfrozen_sub hx)
theorem cls_quiet {o : Op} (hd : Pi.drawable o = true) : (clsOp o ≤ 1 → Pi.quiet o = true) ∧ (clsOp o = 2 ∨ clsOp o = 3 → Pi.quiet o = false ∧ Pi.isApp o = false) ∧ (clsOp o = 0 ∨ clsOp o = 2 → ∀ t h, Pi.foot t h o = []) := by
  cases o with
  | slice _ _ _ _ mx => cases mx <;> simp [clsOp, Pi.quiet]
  | makeMap _ r => cases r <;> simp [clsOp, Pi.quiet, Pi.isApp, Pi.foot]
  | call c =>
    cases hc : c.callee with
    | builtin b => cases b <;> simp [clsOp, Pi.quiet, Pi.isApp, hc]
    | _ => simp [clsOp, hc]
  | _ => simp [clsOp, Pi.quiet, Pi.isApp, Pi.foot]
theorem drawnOp_ok {t : T PV} {id : Nat} {o : Oper} {r : Pi.R} (hdr : Pi.drawable o.op = true) (hid : h.get id = none) (e : Pi.evalOp P t h id o = some r) :
    (∀ v h1, r = .val v h1 → clsOp o.op ≤ 2 → ∃ h2 wr, (∀ rec, Pi.drawnOp P rec t h id o = some (v, h2, id :: Pi.foot t h o.op, wr)) ∧ (∀ q, h2.get q = h1.get q) ∧ h2.nx = h.nx ∧ (clsOp o.op ≤ 1 → wr = [] ∧ h1 = h) ∧ ∀ w ∈ wr, w ∈ id :: Pi.foot t h o.op) ∧
    (∀ h1, r = .skip h1 → clsOp o.op = 3 → ∃ h2 wr, (∀ rec, Pi.drawnOp P rec t h id o = some (.tup [], h2, id :: Pi.foot t h o.op, wr)) ∧ (∀ q, h2.get q = h1.get q) ∧ h2.nx = h.nx ∧ ∀ w ∈ wr, w ∈ id :: Pi.foot t h o.op) := by
  have cutg : ∀ q ∈ id :: Pi.foot t h o.op, (h.cut (id :: Pi.foot t h o.op)).get q = h.get q := fun q hq => by
    rw [Pi.cut_get, if_pos ⟨hq, by omega⟩]
  have low := fun hc => evalOp_low (P := P) (hs := h.cut (id :: Pi.foot t h o.op)) hc (fun q hq => cutg q (List.mem_cons_of_mem _ hq)) (fun _ => by rw [cutg id (by simp)]; exact hid) e
  have sub : Pi.Sub (h.cut (id :: Pi.foot t h o.op)) h := fun x b hb => (Pi.cut_some hb).2
  have blt : Nat.blt id (id + 1) = true := by simp
  have hq := cls_quiet hdr
  -- the whole heap, out of the part
  have whole : ∀ {h1' h1 : Hp}, Pi.Lay (h.cut (id :: Pi.foot t h o.op)) h h1' h1 id → ∃ h2, Pi.over h1' (id :: Pi.foot t h o.op) h = some h2 ∧ (∀ q, h2.get q = h1.get q) ∧ h2.nx = h.nx := fun {h1' h1} l => by
    obtain ⟨h2, e2, n2⟩ := over_ex h1' (id :: Pi.foot t h o.op) h
    refine ⟨h2, e2, fun q => ?_, n2⟩
    rw [Pi.over_get e2 q, l.get q]
    by_cases hm : q ∈ id :: Pi.foot t h o.op
    · rw [if_pos hm]
      all_goals (cases h1'.get q <;> rfl)
    · rw [if_neg hm]
      cases hg : h1'.get q with
      | none => rfl
      | some b =>
        rcases l.keys q b hg with ⟨b0, hb⟩ | hb
        · exact absurd (Pi.cut_some hb).1 hm
        · exact absurd (by simp [hb]) hm
  refine ⟨fun v h1 hr hc => ?_, fun h1 hr hc => ?_⟩
  · obtain ⟨v', h1', e'⟩ := (low (by omega)).1 v h1 hr
    have lay := Pi.evalOp_lay sub (fun _ => hid) hdr e'
    obtain ⟨h2, k1, k2⟩ := lay
    rw [e, hr] at k1
    cases k1
    by_cases h01 : clsOp o.op ≤ 1
    · have hq1 := hq.1 h01
      have := Pi.evalOp_quiet hq1 hdr (by rw [e, hr])
      refine ⟨h, [], fun rec => ?_, fun q => by rw [this], rfl, fun _ => ⟨rfl, this⟩, fun _ hw => by cases hw⟩
      unfold Pi.drawnOp
      simp only [hdr, blt, Bool.not_true, Bool.or_self, cond_false, e', hq1, cond_true]
    · have hq2 := hq.2.1 (.inl (by omega))
      obtain ⟨h3, e3, g3, n3⟩ := whole k2
      refine ⟨h3, Pi.unfrozen h (id :: Pi.foot t h o.op), fun rec => ?_, g3, n3, fun h => absurd h h01, fun w hw => unfrozen_sub hw⟩
      unfold Pi.drawnOp
      simp only [hdr, blt, Bool.not_true, Bool.or_self, cond_false, e', hq2.1, hq2.2, e3, Option.map_some]
  · obtain ⟨h1', e'⟩ := (low (by omega)).2 h1 hr
    have lay := Pi.evalOp_lay sub (fun _ => hid) hdr e'
    obtain ⟨h2, k1, k2⟩ := lay
    rw [e, hr] at k1
    cases k1
    have hq2 := hq.2.1 (.inr hc)
    obtain ⟨h3, e3, g3, n3⟩ := whole k2
    refine ⟨h3, Pi.unfrozen h (id :: Pi.foot t h o.op), fun rec => ?_, g3, n3, fun w hw => unfrozen_sub hw⟩
    unfold Pi.drawnOp
    simp only [hdr, blt, Bool.not_true, Bool.or_self, cond_false, e', hq2.1, hq2.2, e3, Option.map_some]
theorem BR.there {X : Cx} {c : BA} {pid m : Nat} (hb : BR X c (some (.blk pid m))) (hl : c.live) : X.h.get pid ≠ none := by
  cases c with
  | box => obtain ⟨_, _, _, _, h1, _, h3, _⟩ := hb; cases h1; rw [h3]; simp
  | row =>
    rcases hb with ⟨_, _, _, _, h1, _, h3, _⟩ | ⟨h1, _⟩ | ⟨_, h1, _⟩
    · cases h1; rw [h3]; simp
    · cases h1
    · cases h1
  | mp => obtain ⟨_, _, _, h1, _, h3, _⟩ := hb; cases h1; rw [h3]; simp
  | lp => obtain ⟨_, _, _, _, _, h1, _, h3, _⟩ := hb; cases h1; rw [h3]; simp
  | df => obtain ⟨_, _, _, h1, _, h3, _⟩ := hb; cases h1; rw [h3]; simp
  | dead => exact hl.elim
theorem liveI_ok {X : Cx} {h : H} {n id pid m : Nat} (r : RH X h n) (hl : liveI h id = true) (hp : X.π id = some (.blk pid m)) : X.h.get pid ≠ none := by
  unfold liveI at hl
  split at hl
  · cases hl
  · rename_i c hne hg
    have hlv : c.live := by
      cases c <;> first | trivial | exact absurd hg (by simpa using hne)
    exact (hp ▸ r.blk _ _ hg).there hlv
  · cases hl
theorem footV_ok {X : Cx} {h : H} {n : Nat} (r : RH X h n) {v : V} {p : PV} (hv : VR X v p) (hl : liveV h v = true) : ∀ q ∈ Pi.footV p, X.h.get q ≠ none := by
  intro q hq
  cases v with
  | ow id =>
    simp only [VR] at hv
    cases hp : X.π id with
    | none => rw [hp] at hv; exact hv.elim
    | some a =>
      rw [hp] at hv
      cases a with
      | blk pid len => simp only at hv; subst hv; simp only [Pi.footV, List.mem_singleton] at hq; subst hq; exact liveI_ok r hl hp
      | nil => simp only at hv; subst hv; simp [Pi.footV] at hq
      | fz es => simp only at hv; subst hv; simp [Pi.footV] at hq
  | own id off len => simp only [VR] at hv; obtain ⟨pid, m, h1, rfl⟩ := hv; simp only [Pi.footV, List.mem_singleton] at hq; subst hq; exact liveI_ok r hl h1
  | ptr id off => simp only [VR] at hv; obtain ⟨pid, m, h1, rfl⟩ := hv; simp only [Pi.footV, List.mem_singleton] at hq; subst hq; exact liveI_ok r hl h1
  | ept id i off => simp only [VR] at hv; obtain ⟨pid, m, h1, rfl⟩ := hv; simp only [Pi.footV, List.mem_singleton] at hq; subst hq; exact liveI_ok r hl h1
  | mp id => simp only [VR] at hv; obtain ⟨pid, m, h1, rfl⟩ := hv; simp only [Pi.footV, List.mem_singleton] at hq; subst hq; exact liveI_ok r hl h1
  | lf full g c l =>
    simp only [VR] at hv
    rcases hv with ⟨h1, _⟩ | ⟨f, es, h1, _⟩ | ⟨pid, off, len, es, ex, fz, h1, h0, h2, h3, _⟩
    · subst h1; simp [Pi.footV] at hq
    · subst h1; simp [Pi.footV] at hq
    · subst h1; simp only [Pi.footV, List.mem_singleton] at hq; subst hq; rw [h3]; simp
  | view cs =>
    simp only [VR] at hv
    rcases hv with ⟨ps, rfl, _⟩ | ⟨pid, i, off, es, ex, fz, e, rfl, h2, h3, _⟩
    · simp [Pi.footV] at hq
    · simp only [Pi.footV, List.mem_singleton] at hq; subst hq; rw [h3]; simp
  | exl f es => simp only [VR] at hv; obtain ⟨_, _, rfl, _⟩ := hv; simp [Pi.footV] at hq
  | agg cs => simp only [VR] at hv; obtain ⟨_, rfl, _⟩ := hv; simp [Pi.footV] at hq
  | tup cs => simp only [VR] at hv; obtain ⟨_, rfl, _⟩ := hv; simp [Pi.footV] at hq
  | fn f a b => simp only [VR] at hv; obtain ⟨_, _, rfl, _⟩ := hv; simp [Pi.footV] at hq
  | yl id => simp only [VR] at hv; obtain ⟨_, _, _, rfl⟩ := hv; simp [Pi.footV] at hq
  | ifc t v => simp only [VR] at hv; obtain ⟨_, rfl, _⟩ := hv; simp [Pi.footV] at hq
  | _ => simp only [VR] at hv; subst hv; simp [Pi.footV] at hq
theorem cellOf_foot {v : Value} {p : PV} (e : Pi.cellOf v = some p) : Pi.footV p = [] := by
  unfold Pi.cellOf at e
  split at e <;> first | cases e | skip
  all_goals first | rfl | (cases e; rfl) | (replace e := bifY e; cases e.2; rfl) | (split at e <;> first | (cases e; rfl) | cases e)
theorem ofVal_foot {v : Value} {p : PV} (e : Pi.ofVal v = some p) : Pi.footV p = [] := by
  unfold Pi.ofVal at e
  split at e
  · obtain ⟨x, _, rfl⟩ := Pi.mapOpt e; rfl
  · replace e := bifY e; cases e.2; rfl
  · split at e
    · cases e; rfl
    · cases e
  · exact cellOf_foot e
theorem footO_ok {X : Cx} {h : H} {n : Nat} (r : RH X h n) {t : T V} {tP : T PV} (ht : TR X t tP) : ∀ {l : List Operand}, liveO h t l = true → ∀ q ∈ Pi.footO tP l, X.h.get q ≠ none
  | [], _, q, hq => by simp [Pi.footO] at hq
  | o :: l, hl, q, hq => by
    unfold Pi.footO at hq
    have tl : liveO h t l = true := by
      cases o with
      | tmp k => simp only [liveO, Bool.and_eq_true] at hl; exact hl.2
      | _ => exact hl
    split at hq
    · rename_i p hp
      rcases List.mem_append.1 hq with hq | hq
      · cases o with
        | tmp k =>
          simp only [liveO, Bool.and_eq_true] at hl
          have h1 := hl.1
          split at h1
          · rename_i v hv
            obtain ⟨p', hp', hvr⟩ := ht _ _ hv
            simp only [Pi.evs, hp', Option.getD_some, Option.some.injEq] at hp
            subst hp
            exact footV_ok r hvr h1 q hq
          · cases h1
        | const v => rw [ofVal_foot hp] at hq; cases hq
        | func f => simp only [Pi.evs, Option.some.injEq] at hp; subst hp; simp [Pi.footV] at hq
        | global g => cases hp
      · exact footO_ok r ht tl q hq
    · exact footO_ok r ht tl q hq
theorem foot_ok {X : Cx} {h : H} {n : Nat} (r : RH X h n) {t : T V} {tP : T PV} (ht : TR X t tP) {o : Op} (hc : clsOp o ≤ 3) (hd : Pi.drawable o = true) (hl : liveO h t (Pi.opnds o) = true) : ∀ q ∈ Pi.foot tP X.h o, X.h.get q ≠ none := by
  intro q hq
  have := footO_ok r ht hl
  cases o with
  | load _ _ => exact this q hq
  | indexAddr _ _ _ => exact this q hq
  | store _ _ _ => exact this q hq
  | slice ty x lo hi mx =>
    cases mx with
    | some _ => simp [clsOp] at hc
    | none =>
      refine this q ?_
      simp only [Pi.foot, Option.isSome_none, cond_false] at hq
      have app : ∀ {a b : List Operand}, q ∈ Pi.footO tP a → q ∈ Pi.footO tP (a ++ b) := by
        intro a b
        induction a with
        | nil => intro h; simp [Pi.footO] at h
        | cons o a ih =>
          intro h
          simp only [List.cons_append, Pi.footO] at h ⊢
          split at h
          · rename_i p hp
            try rw [hp]
            try simp only
            rcases List.mem_append.1 h with h | h
            · exact List.mem_append_left _ h
            · exact List.mem_append_right _ (ih h)
          · rename_i hp
            try rw [hp]
            exact ih h
      exact app (a := [x]) hq
  | call c =>
    simp only [Pi.foot] at hq
    split at hq
    · rename_i b hb
      simp only [Pi.opnds, hb] at this
      exact this q hq
    · cases hq
  | buildSlice _ _ _ => simp [clsOp] at hc
  | lookup _ _ _ _ => cases hd
  | mapUpdate _ _ _ _ => cases hd
  | insert _ _ _ _ => cases hd
  | _ => simp [Pi.foot] at hq
end
end Go.Proofs.YtopoaknleakdcaaGreat.Sv
