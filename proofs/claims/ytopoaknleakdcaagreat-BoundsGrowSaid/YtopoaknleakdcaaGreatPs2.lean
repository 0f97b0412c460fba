/- A part of the evaluator over typed open values for any program, and of the proof that it is sound. No condition. -/
import Derived.Test.YtopoaknleakdcaaGreatPs1
set_option linter.unusedVariables false
namespace Go.Proofs.YtopoaknleakdcaaGreat.Sv
open Go.Proofs.YtopoaknleakdcaaGreat.Pi (PV T Hp Blk DF UM PE lget_eq lset_eq mapPur pur purl)
section
variable {X : Cx} {h : H} {n id idP : Nat} {β : Type} {x : β} {P : Program}
theorem sub_L2 {α : Type} {R : α → PV → Prop} {l : List α} {es : List PV} {off len a b : Nat} (h : L2 R l ((es.drop off).take len)) (hb : b ≤ len) : L2 R (lsub l a b) ((es.drop (off + a)).take (b - a)) := by
  have := (h.drop a).take (b - a)
  rw [List.drop_take, List.take_take, List.drop_drop] at this
  unfold lsub
  rw [show min (b - a) (len - a) = b - a from by omega] at this
  exact this
theorem VRO.isSome {o : Option V} {p : Option PV} (h : VRO X o p) : p.isSome = o.isSome := by
  cases o with
  | none => cases h; rfl
  | some v => obtain ⟨q, rfl, _⟩ := h; rfl
/-- the heap as it is known stays -/
def WOk (X : Cx) (h : H) (n id idP : Nat) (K : V → Option β) (x : β) (o : Option Pi.R) : Prop :=
  ∃ v p hP' Y, K v = some x ∧ o = some (.val p hP') ∧ HOk X h n id idP h hP' Y ∧ VR Y v p
theorem WOk.same (r : RH X h n) {K : V → Option β} {o : Option Pi.R} {v : V} {p : PV} (e : K v = some x) (eo : o = some (.val p X.h)) (hv : VR X v p) : WOk X h n id idP K x o :=
  ⟨v, p, X.h, X, e, eo, ⟨rfl, r, St.refl _ _ _ _⟩, hv⟩
theorem natOr0 {d : Nat} : Pi.natOr d none = some d := rfl
theorem natOrS {d : Nat} {p : PV} : Pi.natOr d (some p) = Pi.asNat p := rfl
theorem bltF {a b : Nat} (h : ¬ a < b) : Nat.blt a b = false := by
  cases hq : Nat.blt a b with
  | false => rfl
  | true => exact absurd (by simpa using hq) h
theorem bltN {a b : Nat} (h : Nat.blt a b = false) : ¬ a < b := fun hl => by
  rw [show Nat.blt a b = true from by simpa using hl] at h; cases h
theorem sliceA_ok (r : RH X h n) (hn : n ≤ 1048575) {ty : TypeId} {a : V} {p : PV} {lo hi mx : Option V} {loP hiP mxP : Option PV} {K : V → Option β} (ha : VR X a p) (hlo : VRO X lo loP) (hhi : VRO X hi hiP) (hmx : VRO X mx mxP)
    (e : sliceA P h ty a lo hi mx K = some x) : WOk X h n id idP K x (Pi.evSlice P X.h ty p loP hiP mxP) := by
  unfold sliceA at e
  split at e
  · rename_i s hu
    split at e
    · cases hmx
      simp only [VR] at ha; subst ha
      replace e := natOrV_ok hhi e; obtain ⟨hh, e, h1⟩ := e
      replace e := natOrV_ok hlo e; obtain ⟨l, e, h2⟩ := e
      replace e := gd_some e; obtain ⟨g1, e⟩ := e
      replace e := gd_some e; obtain ⟨g2, e⟩ := e
      refine .same r e (p := .str ((s.drop l).take (hh - l))) ?_ (by simp [VR, ssub])
      unfold Pi.evSlice
      simp only [slen] at h1 g1
      simp only [nle] at g1 g2
      simp only [hu, h1, h2, g1, g2, Bool.and_self, cond_true]
    · cases e
  · rename_i et hu
    replace e := opt_some e; obtain ⟨sz, hsz, e⟩ := e
    simp only [VR] at ha; subst ha
    split at e
    · cases hmx
      replace e := natOrV_ok hhi e; obtain ⟨hh, e, h1⟩ := e
      replace e := natOrV_ok hlo e; obtain ⟨l, e, h2⟩ := e
      replace e := gd_some e; obtain ⟨g1, e⟩ := e
      replace e := gd_some e; obtain ⟨g2, e⟩ := e
      have : hh = 0 := by simpa [neq] using g1
      subst this
      have : l = 0 := by simpa [neq] using g2
      subst this
      refine .same r e (p := .nils) ?_ (by simp [VR])
      unfold Pi.evSlice
      simp only [hu, hsz, h1, h2, natOr0]; rfl
    · rename_i m
      obtain ⟨mP, rfl, hm⟩ := hmx
      replace e := bifN e; obtain ⟨hb1, e⟩ := e
      have hiS : hiP.isSome = true := by rw [hhi.isSome]; simpa using hb1
      replace e := natOrV_ok hhi e; obtain ⟨hh, e, h1⟩ := e
      replace e := natOrV_ok hlo e; obtain ⟨l, e, h2⟩ := e
      replace e := natV_ok hm e; obtain ⟨mn, e, h3⟩ := e
      replace e := gd_some e; obtain ⟨g1, e⟩ := e
      replace e := gd_some e; obtain ⟨g2, e⟩ := e
      replace e := gd_some e; obtain ⟨g3, e⟩ := e
      have : hh = 0 := by simpa [neq] using g1
      subst this
      have : l = 0 := by simpa [neq] using g2
      subst this
      have : mn = 0 := by simpa [neq] using g3
      subst this
      refine .same r e (p := .nils) ?_ (by simp [VR])
      unfold Pi.evSlice
      simp only [hu, hsz, h1, h2, natOrS, h3, hiS]; rfl
  · rename_i et f g c es hu
    replace e := opt_some e; obtain ⟨sz, hsz, e⟩ := e
    replace e := bifN e; obtain ⟨hwd, e⟩ := e
    have hwd : sz = c.wd := by simpa using hwd
    subst hwd
    replace e := natOrV_ok hlo e; obtain ⟨l, e, h1⟩ := e
    replace e := natOrV_ok hhi e; obtain ⟨hh, e, h2⟩ := e
    split at e
    · cases hmx
      replace e := gd_some e; obtain ⟨g1, e⟩ := e
      replace e := gd_some e; obtain ⟨g2, e⟩ := e
      have g1' : hh ≤ es.length := by simpa [nle, llen] using g1
      have g2' : l ≤ hh := by simpa [nle] using g2
      simp only [VR] at ha
      unfold Pi.evSlice
      rcases ha with ⟨rfl, rfl⟩ | ⟨f', ps, rfl, hf, k1⟩ | ⟨pid, off, len, ps, ex, fz, rfl, hf, k1, k2, k3, k4, k5⟩
      · have : hh = 0 := by simpa using g1'
        subst this
        have : l = 0 := by omega
        subst this
        refine .same r e (p := .nils) ?_ (by simp [VR, lsub])
        simp only [llen, List.length_nil] at h2
        simp only [hu, hsz, h1, h2, natOr0]; rfl
      · rw [k1.length] at g1'
        refine .same r e (p := .lst (f' && Nat.beq hh ps.length) ((ps.drop l).take (hh - l))) ?_ (by simp only [VR]; exact .inr (.inl ⟨_, _, rfl, by simp, (k1.drop l).take (hh - l)⟩))
        simp only [llen, k1.length] at h2
        simp only [hu, hsz, elOk_wd rfl (EPL.up (hh := X.h) (Q := X.Q) k1), Bool.not_true, cond_false, h1, h2]
        rw [show Nat.ble hh ps.length = true from by simpa using g1', show Nat.ble l hh = true from by simpa using g2']
        rfl
      · have hlen : ((ps.drop off).take len).length = len := by simp; omega
        rw [k5.length, hlen] at g1'
        simp only [llen, k5.length, hlen] at h2
        have b1 : Nat.ble l hh = true := by simpa using g2'
        have b2 : Nat.ble (off + hh) ps.length = true := by simp; omega
        by_cases hb : off + l < ps.length
        · refine .same r e (p := .own pid (off + l) (hh - l)) ?_ (by simp only [VR]; exact .inr (.inr ⟨pid, off + l, hh - l, ps, ex, fz, rfl, by simp, k1, k2, by omega, k4, sub_L2 k5 g1'⟩))
          simp only [hu, hsz, k2, k4, Bool.not_true, cond_false, h1, h2, b1, b2, Bool.or_self]
          rw [show Nat.blt (off + l) ps.length = true from by simpa using hb]; rfl
        · have hes : lsub es l hh = [] := by
            have := (sub_L2 (a := l) k5 g1').length
            simp at this
            exact List.length_eq_zero_iff.1 (by omega)
          refine .same r e (p := .lst false []) ?_ (by rw [hes]; simp only [VR]; exact .inr (.inl ⟨false, [], rfl, by simp, .nil⟩))
          simp only [hu, hsz, k2, k4, Bool.not_true, cond_false, h1, h2, b1, b2, Bool.or_self]
          rw [show Nat.blt (off + l) ps.length = false from by
            cases hq : Nat.blt (off + l) ps.length with
            | false => rfl
            | true => exact absurd (by simpa using hq) hb]; rfl
    · rename_i m
      obtain ⟨mP, rfl, hm⟩ := hmx
      replace e := bifN e; obtain ⟨hb, e⟩ := e
      simp only [Bool.or_eq_false_iff, Bool.not_eq_false', Option.isNone_eq_false_iff] at hb
      obtain ⟨hb1, hb2⟩ := hb
      have hiS : hiP.isSome = true := by rw [hhi.isSome]; exact hb1
      replace e := natV_ok hm e; obtain ⟨mn, e, h3⟩ := e
      replace e := gd_some e; obtain ⟨g1, e⟩ := e
      replace e := gd_some e; obtain ⟨g3, e⟩ := e
      replace e := gd_some e; obtain ⟨g2, e⟩ := e
      have : hh = mn := by simpa [neq] using g3
      subst this
      have g1' : hh ≤ es.length := by simpa [nle, llen] using g1
      have g2' : l ≤ hh := by simpa [nle] using g2
      have b1 : Nat.ble l hh = true := by simpa using g2'
      simp only [VR] at ha
      unfold Pi.evSlice
      rcases ha with ⟨rfl, rfl⟩ | ⟨f', ps, rfl, hf, k1⟩ | ⟨pid, off, len, ps, ex, fz, rfl, hf, k1, k2, k3, k4, k5⟩
      · have : hh = 0 := by simpa using g1'
        subst this
        have : l = 0 := by omega
        subst this
        refine .same r e (p := .nils) ?_ (by simp [VR, lsub])
        simp only [llen, List.length_nil] at h2
        simp only [hu, hsz, h1, h2, natOrS, h3, hiS]; rfl
      · rw [k1.length] at g1'
        refine .same r e (p := .lst true ((ps.drop l).take (hh - l))) ?_ (by simp only [VR]; exact .inr (.inl ⟨_, _, rfl, by simp, (k1.drop l).take (hh - l)⟩))
        simp only [llen, k1.length] at h2
        simp only [hu, hsz, elOk_wd rfl (EPL.up (hh := X.h) (Q := X.Q) k1), Bool.not_true, cond_false, h1, h2, h3, hiS, b1]
        have hbb : Nat.ble hh hh = true := by simp
        have hbe : Nat.beq hh hh = true := by simp
        rw [show Nat.ble hh ps.length = true from by simpa using g1', hbb, hbe]
        rfl
      · have hlen : ((ps.drop off).take len).length = len := by simp; omega
        rw [k5.length, hlen] at g1'
        simp only [llen, k5.length, hlen] at h2
        have b2 : Nat.ble (off + hh) ps.length = true := by simp; omega
        simp only [hu, hsz, k2, k4, Bool.not_true, cond_false, h1, h2, b1, b2, Bool.or_self, h3, hiS]
        cases hex : (ex && Nat.beq (off + hh) ps.length) with
        | true =>
          simp only [Bool.and_eq_true, Nat.beq_eq] at hex
          obtain ⟨rfl, hend⟩ := hex
          by_cases hb : off + l < ps.length
          · refine .same r e (p := .own pid (off + l) (hh - l)) ?_ (by simp only [VR]; exact .inr (.inr ⟨pid, off + l, hh - l, ps, true, fz, rfl, fun _ => ⟨rfl, by omega⟩, k1, k2, by omega, k4, sub_L2 k5 g1'⟩))
            have hbb : Nat.ble hh hh = true := by simp
            have hbe : Nat.beq (off + hh) ps.length = true := by simp [hend]
            rw [show Nat.blt (off + l) ps.length = true from by simpa using hb, hbb, hbe]
            rfl
          · have hes : lsub es l hh = [] := by
              have := (sub_L2 (a := l) k5 g1').length
              simp at this
              exact List.length_eq_zero_iff.1 (by omega)
            refine .same r e (p := .lst true []) ?_ (by rw [hes]; simp only [VR]; exact .inr (.inl ⟨true, [], rfl, by simp, .nil⟩))
            rw [show Nat.blt (off + l) ps.length = false from by
              cases hq : Nat.blt (off + l) ps.length with
              | false => rfl
              | true => exact absurd (by simpa using hq) hb]
            have hbb : Nat.ble hh hh = true := by simp
            have hbe : Nat.beq (off + hh) ps.length = true := by simp [hend]
            rw [hbb, hbe]
            rfl
        | false =>
          have hd : c.depth ≤ 4 := Nat.le_of_ble_eq_true hb2
          obtain ⟨qs, ids, p1, p2, p3⟩ := pur_own (d := 12) (off := off + l) (len := hh - l) k2 (by omega) (sub_L2 k5 g1') (by omega)
          have hmA : MetA X [] (pid :: ids) := fun i hi => by
            rcases List.mem_cons.1 hi with rfl | hi
            · exact ⟨.inl k1, ps, ex, fz, k2⟩
            · exact p3.toA i hi
          obtain ⟨hP', Y, f1, y1, y2, y3⟩ := r.mark hn hmA .nil rfl id idP
          refine ⟨_, .lst true qs, hP', Y, e, ?_, y3, by simp only [VR]; exact .inr (.inl ⟨true, qs, rfl, by simp, p2⟩)⟩
          have hbb : Nat.ble hh hh = true := by simp
          have hbe : Nat.beq hh hh = true := by simp
          have hc : (true && Nat.ble hh hh && ex && Nat.beq (off + hh) ps.length) = false := by rw [hbb]; simpa using hex
          rw [hc]
          simp only [cond_false, Pi.cutData, show Pi.purDepth = 12 from rfl, p1, f1, hbe]
          rfl
  · rename_i et j hu
    split at e
    · rename_i g c es ex lk hg
      replace e := opt_some e; obtain ⟨sz, hsz, e⟩ := e
      replace e := bifN e; obtain ⟨hwd, e⟩ := e
      have hwd : sz = c.wd := by simpa using hwd
      subst hwd
      replace e := natOrV_ok hlo e; obtain ⟨l, e, h1⟩ := e
      replace e := natOrV_ok hhi e; obtain ⟨hh, e, h2⟩ := e
      split at e
      · cases hmx
        replace e := gd_some e; obtain ⟨g1, e⟩ := e
        replace e := gd_some e; obtain ⟨g2, e⟩ := e
        have g1' : hh ≤ es.length := by simpa [nle, llen] using g1
        have g2' : l ≤ hh := by simpa [nle] using g2
        have b1 : Nat.ble l hh = true := by simpa using g2'
        simp only [VR] at ha
        have hB := r.blk _ _ hg
        cases hpi : X.π j with
        | none => rw [hpi] at ha; exact ha.elim
        | some t =>
          rw [hpi] at ha hB
          unfold Pi.evSlice
          rcases hB with ⟨pid, len, ps, fz', p1, p2, p3, p4, p5, p7, p6⟩ | ⟨p1, _, p2⟩ | ⟨_, p1, _, p2, _⟩
          · cases p1
            simp only at ha; subst ha
            have hl : es.length = len := by rw [p6.length, p5]
            simp only [llen, hl] at h2
            rw [hl] at g1'
            have b2 : Nat.ble (0 + hh) ps.length = true := by simp; omega
            replace e := br_some e
            rcases e with ⟨hb, e⟩ | ⟨hb, e⟩
            · have hb' : l < len := by simpa [nlt, llen, hl] using hb
              refine .same r e (p := .own pid (0 + l) (hh - l)) ?_ (by simp only [VR]; exact ⟨pid, len, hpi, by simp [nsub]⟩)
              simp only [hu, hsz, p3, elOk_wd rfl p6, Bool.not_true, cond_false, h1, h2, b1, b2, Bool.or_self]
              rw [show Nat.blt (0 + l) ps.length = true from by simp; omega]; rfl
            · have hb' : ¬ l < len := bltN (by rw [← hl]; exact hb)
              refine .same r e (p := .lst false []) ?_ (by simp only [VR]; exact .inr (.inl ⟨false, [], rfl, by simp, .nil⟩))
              simp only [hu, hsz, p3, elOk_wd rfl p6, Bool.not_true, cond_false, h1, h2, b1, b2, Bool.or_self]
              rw [bltF (by omega)]; rfl
          · cases p1; subst p2
            simp only at ha; subst ha
            have : hh = 0 := by simpa using g1'
            subst this
            have : l = 0 := by omega
            subst this
            replace e := br_some e
            rcases e with ⟨hb, e⟩ | ⟨hb, e⟩
            · simp [nlt, llen] at hb
            · refine .same r e (p := .nils) ?_ (by simp [VR])
              simp only [llen, List.length_nil] at h2
              simp only [hu, hsz, h1, h2, natOr0]; rfl
          · cases p2
      · cases e
    · cases e
  · rename_i et j off len hu
    split at e
    · rename_i g c es ex fz lk hg
      replace e := opt_some e; obtain ⟨sz, hsz, e⟩ := e
      replace e := bifN e; obtain ⟨hwd, e⟩ := e
      have hwd : sz = c.wd := by simpa using hwd
      subst hwd
      replace e := natOrV_ok hlo e; obtain ⟨l, e, h1⟩ := e
      replace e := natOrV_ok hhi e; obtain ⟨hh, e, h2⟩ := e
      split at e
      · cases hmx
        replace e := gd_some e; obtain ⟨g1, e⟩ := e
        replace e := gd_some e; obtain ⟨g2, e⟩ := e
        have g1' : off + hh ≤ es.length := by simpa [nle, llen, nadd] using g1
        have g2' : l ≤ hh := by simpa [nle] using g2
        have b1 : Nat.ble l hh = true := by simpa using g2'
        simp only [VR] at ha
        obtain ⟨pid, m, hpi, rfl⟩ := ha
        obtain ⟨ps, fz', p3, _, p5, _, p6⟩ := r.rowAt hpi hg
        rw [p6.length] at g1'
        have b2 : Nat.ble (off + hh) ps.length = true := by simpa using g1'
        unfold Pi.evSlice
        replace e := br_some e
        rcases e with ⟨hb, e⟩ | ⟨hb, e⟩
        · have hb' : off + l < ps.length := by simpa [nlt, llen, nadd, p6.length] using hb
          refine .same r e (p := .own pid (off + l) (hh - l)) ?_ (by simp only [VR]; exact ⟨pid, m, hpi, rfl⟩)
          simp only [hu, hsz, p3, elOk_wd rfl p6, Bool.not_true, cond_false, h1, h2, b1, b2, Bool.or_self]
          rw [show Nat.blt (off + l) ps.length = true from by simpa using hb']; rfl
        · have hb' : ¬ off + l < ps.length := bltN (by rw [← p6.length]; exact hb)
          refine .same r e (p := .lst false []) ?_ (by simp only [VR]; exact .inr (.inl ⟨false, [], rfl, by simp, .nil⟩))
          simp only [hu, hsz, p3, elOk_wd rfl p6, Bool.not_true, cond_false, h1, h2, b1, b2, Bool.or_self]
          rw [bltF hb']; rfl
      · cases e
    · cases e
  · cases e
theorem evAssert_plain {hh : Hp} {ty : TypeId} {u : TypeDesc} {v : PV} {ok : Bool} (hu : P.underlying ty = some u) (hn : ∀ m, u = .interface m → False) : Pi.evAssert P hh ty v ok = (match v with
    | .ifc u a => bif Nat.beq u ty then some (.val (Pi.asserted ok a) hh) else bif ok then (match Pi.zeroEl P ty with
      | some z => some (.val (.tup [z, .bool false]) hh)
      | none => none) else none
    | .nili => bif ok then (match Pi.zeroEl P ty with
      | some z => some (.val (.tup [z, .bool false]) hh)
      | none => none) else none
    | _ => none) := by
  unfold Pi.evAssert
  rw [hu]
  cases u <;> first | rfl | exact (hn _ rfl).elim
theorem pinvoke_plain {t : TypeId} {u : TypeDesc} {A B C : FuncId → Option Pi.R} (hu : P.underlying t = some u) (hn : ∀ m, u = .pointer m → False) {b : Bool} {fn : Option (FuncId × Bool)} {g : FuncId} : b = true → fn = some (g, false) →
    (match b, fn, P.underlying t with
      | true, some (g, true), some (.pointer _) => A g
      | true, some (g, false), some (.pointer _) => C g
      | true, some (g, false), some _ => B g
      | _, _, _ => none) = B g := by
  intro h1 h2
  subst h1; subst h2
  rw [hu]
  cases u <;> first | rfl | exact (hn _ rfl).elim
theorem assertA_ok (r : RH X h n) {ty : TypeId} {a : V} {p : PV} {ok : Bool} {K : V → Option β} (ha : VR X a p) (e : assertA P ty a ok K = some x) : ∃ v q, K v = some x ∧ Pi.evAssert P X.h ty p ok = some (.val q X.h) ∧ VR X v q := by
  have zr : ∀ {K : V → Option β}, (bif ok then opt (zeroElA P ty) fun z => K (.tup [z, .bool false]) else none) = some x → ∃ v q, K v = some x ∧ (bif ok then (match Pi.zeroEl P ty with
        | some z => some (Pi.R.val (.tup [z, .bool false]) X.h)
        | none => none) else none) = some (Pi.R.val q X.h) ∧ VR X v q := by
    clear e
    intro K e
    replace e := bifY e; obtain ⟨hok, e⟩ := e
    subst hok
    replace e := opt_some e; obtain ⟨z, hz, e⟩ := e
    obtain ⟨zP, z1, z2⟩ := zeroElA_ok (X := X) hz
    exact ⟨_, .tup [zP, .bool false], e, by simp [z1], by simp only [VR]; exact ⟨_, rfl, .cons z2 (.cons (by simp [VR]) .nil)⟩⟩
  have yes : ∀ {v : V} {q : PV}, VR X v q → VR X (assertedA ok v) (Pi.asserted ok q) := by
    intro v q h
    cases ok
    · exact h
    · simp only [assertedA, Pi.asserted, cond_true, VR]; exact ⟨_, rfl, .cons h (.cons (by simp [VR]) .nil)⟩
  have zr' := @zr
  unfold assertA at e
  split at e
  · rename_i want hu
    unfold Pi.evAssert
    simp only [hu]
    split at e
    · rename_i u a
      have ha' := ha
      simp only [VR] at ha
      obtain ⟨q, rfl, ha⟩ := ha
      split at e
      · rename_i i hi
        simp only [hi]
        split at e
        · rename_i hm
          exact ⟨_, _, e, by simp only [hm], yes ha'⟩
        · rename_i y hm
          simp only [hm]
          exact zr e
      · cases e
    · simp only [VR] at ha; subst ha
      exact zr e
    · cases e
  · rename_i u hu hne
    clear zr
    rw [evAssert_plain hne hu]
    split at e
    · rename_i u' a
      simp only [VR] at ha
      obtain ⟨q, rfl, ha⟩ := ha
      replace e := bifT' e
      rcases e with ⟨hb, e⟩ | ⟨hb, e⟩
      · exact ⟨_, _, e, by simp only [hb, cond_true], yes ha⟩
      · obtain ⟨v, q', e1, e2, e3⟩ := zr' e
        exact ⟨v, q', e1, by simp only [hb, cond_false]; exact e2, e3⟩
    · simp only [VR] at ha; subst ha
      exact zr' e
    · cases e
  · cases e
theorem bifTrue {α : Type} {c : Bool} {a b : α} (h : c = true) : (bif c then a else b) = a := by subst h; rfl
theorem invokeA_ok {f : Fn} {first cap args : List V} {firstP capP argsP : List PV} {K : RA → Option β} (h1 : VRL X first firstP) (h2 : VRL X cap capP) (h3 : VRL X args argsP) (e : invokeA P f first cap args K = some x) :
    ∃ g as ps, K (.call g as) = some x ∧ Pi.pinvoke P f firstP capP argsP = some (.call g ps) ∧ VRL X as ps := by
  unfold invokeA at e
  unfold Pi.pinvoke
  split at e
  · split at e
    · rename_i fn hf
      replace e := bifY e; obtain ⟨hb, e⟩ := e
      refine ⟨_, _, _, e, ?_, (h1.append h3).append h2⟩
      simp only [hf, hb, cond_true]
    · cases e
  · split at e
    · rename_i t v rest hfa
      have hall := h1.append h3
      rw [hfa] at hall
      obtain ⟨p, qs, hq, r1, r2⟩ := hall.cons_inv
      simp only [VR] at r1
      obtain ⟨q, rfl, r1⟩ := r1
      rw [hq]
      split at e
      · rename_i i hi
        simp only [hi]
        split at e
        · rename_i m hm
          simp only [hm]
          split at e
          · rename_i g k1 k2 k3
            replace e := bifY e; obtain ⟨hb, e⟩ := e
            refine ⟨_, _, _, e, ?_, .cons r1 r2⟩
            simp only [k1, k2, k3]
            exact bifTrue hb
          · cases e
          · rename_i g u hne k1 k2 k3
            replace e := bifY e; obtain ⟨hb, e⟩ := e
            refine ⟨_, _, _, e, ?_, .cons r1 r2⟩
            exact (pinvoke_plain k3 hne k1 k2).trans (bifTrue hb)
          · cases e
        · cases e
      · cases e
    · cases e
  · cases e
end
end Go.Proofs.YtopoaknleakdcaaGreat.Sv
namespace Go.Proofs.YtopoaknleakdcaaGreat.Sv
open Go.Proofs.YtopoaknleakdcaaGreat.Pi (PV T Hp Blk DF UM PE lget_eq lset_eq mapPur pur purl)
section
variable {X : Cx} {h : H} {n id idP : Nat} {β : Type} {x : β} {P : Program}
/-- what an operation comes to -/
inductive EvOk (X : Cx) (h : H) (n id idP : Nat) (K : RA → Option β) (x : β) : Option Pi.R → Prop where
  | val {v : V} {h' : H} {p : PV} {hP' : Hp} {Y : Cx} (e : K (.val v h') = some x) (ok : HOk X h n id idP h' hP' Y) (hv : VR Y v p) : EvOk X h n id idP K x (some (.val p hP'))
  | skip {h' : H} {hP' : Hp} {Y : Cx} (e : K (.skip h') = some x) (ok : HOk X h n id idP h' hP' Y) : EvOk X h n id idP K x (some (.skip hP'))
  | call {f : FuncId} {as : List V} {ps : List PV} (e : K (.call f as) = some x) (ha : VRL X as ps) : EvOk X h n id idP K x (some (.call f ps))
  | yield {l lP m : Nat} {as : List V} {ps : List PV} (e : K (.yield l as) = some x) (hl : X.π l = some (.blk lP m)) (ha : VRL X as ps) : EvOk X h n id idP K x (some (.yield lP ps))
  | pan {v : V} {p : PV} (e : K (.pan v) = some x) (hv : VR X v p) : EvOk X h n id idP K x (some (.pan p))
  | rcv (e : K .rcv = some x) : EvOk X h n id idP K x (some .rcv)
  | dfr {d : DFA} {dP : DF} (e : K (.dfr d) = some x) (hd : DFR X d dP) : EvOk X h n id idP K x (some (.dfr dP))
theorem EvOk.ofV (r : RH X h n) {K : RA → Option β} {o : Option Pi.R} {v : V} {p : PV} (e : K (.val v h) = some x) (eo : o = some (.val p X.h)) (hv : VR X v p) : EvOk X h n id idP K x o := by
  subst eo; exact .val e ⟨rfl, r, St.refl _ _ _ _⟩ hv
theorem VOk.ev {K : RA → Option β} {o : Option Pi.R} (k : VOk X h n id idP K x o) : EvOk X h n id idP K x o := by
  obtain ⟨v, h', p, hP', Y, e, rfl, k1, k2⟩ := k
  exact .val e k1 k2
theorem box_ok (r : RH X h n) (w : Nw X n id idP) {cs : List V} {ps : List PV} {K : RA → Option β} (hc : VRL X cs ps) (e : K (.val (.ptr id 0) (hput h id (.box cs false false))) = some x) :
    EvOk X h n id idP K x ((X.h.new idP (.box ps false)).map fun h => .val (.ptr idP 0) h) := by
  obtain ⟨hP', e1⟩ := new_ex X.h idP (.box ps false) w.hp
  obtain ⟨Y, y1, y2, y3, y4⟩ := r.new (m := 0) (b := .box cs false false) w.small w.lt w.pi w.hlt e1 (fun Y y1 y2 y3 u =>
    ⟨idP, 0, ps, false, rfl, (y3 _).2 (.inr rfl), by rw [y2, (Hp.get_new e1).2.1, if_pos rfl], fun _ => rfl, hc.mono u⟩)
  rw [e1]
  refine .val e ⟨y2, y3, y4⟩ ?_
  simp only [VR]
  exact ⟨idP, 0, by rw [y1]; exact if_pos rfl, rfl⟩
theorem evA_ok {t : T V} {tP : T PV} (r : RH X h n) (w : Nw X n id idP) (ht : TR X t tP) {o : Oper} {K : RA → Option β} (e : evA P t h id o K = some x) : EvOk X h n id idP K x (Pi.evalOp P tP X.h idP o) := by
  unfold evA at e
  unfold Pi.evalOp
  split at e
  · rename_i a ho
    simp only [ho]
    replace e := evsA_ok ht e; obtain ⟨v, p, e, h1, h2⟩ := e
    exact .ofV r e (vl_some h1) h2
  · rename_i a ho
    simp only [ho]
    replace e := evsA_ok ht e; obtain ⟨v, p, e, h1, h2⟩ := e
    exact .ofV r e (vl_some h1) h2
  · rename_i c a b ho
    simp only [ho, Pi.e3]
    replace e := evsA_ok ht e; obtain ⟨vc, pc, e, c1, c2⟩ := e
    replace e := evsA_ok ht e; obtain ⟨va, pa, e, a1, a2⟩ := e
    replace e := evsA_ok ht e; obtain ⟨vb, pb, e, b1, b2⟩ := e
    simp only [c1, a1, b1]
    split at e
    · simp only [VR] at c2; subst c2
      replace e := br_some e
      rcases e with ⟨hc, e⟩ | ⟨hc, e⟩
      · subst hc; exact .ofV r e rfl a2
      · subst hc; exact .ofV r e rfl b2
    · cases e
  · rename_i ty ho
    simp only [ho]
    replace e := opt_some e; obtain ⟨cs, hcs, e⟩ := e
    obtain ⟨ps, k1, k2⟩ := zeroCellsA_ok (X := X) hcs
    unfold Pi.evAlloc
    simp only [k1]
    exact box_ok r w k2 e
  · rename_i ty a ho
    simp only [ho, Pi.e1]
    replace e := evsA_ok ht e; obtain ⟨v, p, e, h1, h2⟩ := e
    simp only [h1]
    split at e
    · cases e
    · rename_i hne
      have hp : Pi.evBox X.h idP p = (X.h.new idP (.box p.cells false)).map fun h => .val (.ptr idP 0) h := by
        cases p with
        | tup ps =>
          exfalso
          cases v with
          | tup => exact hne _ rfl
          | ow i =>
            simp only [VR] at h2
            split at h2 <;> first | (cases h2; done) | exact h2
          | lf =>
            simp only [VR] at h2
            rcases h2 with ⟨h2, _⟩ | ⟨_, _, h2, _⟩ | ⟨_, _, _, _, _, _, h2, _⟩ <;> cases h2
          | view =>
            simp only [VR] at h2
            rcases h2 with ⟨_, h2, _⟩ | ⟨_, _, _, _, _, _, _, h2, _⟩ <;> cases h2
          | agg => obtain ⟨_, h3, _⟩ := h2.agg_inv; cases h3
          | exl => simp only [VR] at h2; obtain ⟨_, _, h2, _⟩ := h2; cases h2
          | own => simp only [VR] at h2; obtain ⟨_, _, _, h2⟩ := h2; cases h2
          | ptr => simp only [VR] at h2; obtain ⟨_, _, _, h2⟩ := h2; cases h2
          | ept => simp only [VR] at h2; obtain ⟨_, _, _, h2⟩ := h2; cases h2
          | fn => simp only [VR] at h2; obtain ⟨_, _, h2, _⟩ := h2; cases h2
          | yl => simp only [VR] at h2; obtain ⟨_, _, _, h2⟩ := h2; cases h2
          | mp => simp only [VR] at h2; obtain ⟨_, _, _, h2⟩ := h2; cases h2
          | ifc => simp only [VR] at h2; obtain ⟨_, h2, _⟩ := h2; cases h2
          | _ => simp only [VR] at h2; cases h2
        | _ => rfl
      rw [hp]
      exact box_ok r w h2.cells e
  · rename_i ty parts ho
    simp only [ho]
    replace e := partsOfA_ok ht e; obtain ⟨vs, ps, e, h1, h2⟩ := e
    simp only [h1]
    obtain ⟨v, q, e1, e2, e3⟩ := buildA_ok (X := X) h2 e
    exact .ofV r e1 e2 e3
  · rename_i ty len parts ho
    simp only [ho]
    replace e := partsOfA_ok ht e; obtain ⟨vs, ps, e, h1, h2⟩ := e
    simp only [h1]
    exact (buildSliceA_ok r w.big h2 e).ev
  · rename_i ty a ho
    simp only [ho, Pi.e1]
    replace e := evsA_ok ht e; obtain ⟨v, p, e, h1, h2⟩ := e
    simp only [h1]
    obtain ⟨v, q, e1, e2, e3⟩ := loadA_ok r h2 e
    exact .ofV r e1 e2 e3
  · rename_i ty a b ho
    simp only [ho, Pi.e2]
    replace e := evsA_ok ht e; obtain ⟨v, p, e, h1, h2⟩ := e
    replace e := evsA_ok ht e; obtain ⟨v', p', e, h3, h4⟩ := e
    simp only [h1, h3]
    obtain ⟨h', hP', Y, e1, e2, e3⟩ := storeA_ok r w.big h2 h4 id idP e
    rw [e2]; exact .skip e1 e3
  · rename_i a ho
    simp only [ho, Pi.e1]
    replace e := evsA_ok ht e; obtain ⟨v, p, e, h1, h2⟩ := e
    simp only [h1]
    obtain ⟨v, q, e1, e2, e3⟩ := nilA_ok (h := X.h) h2 e
    exact .ofV r e1 e2 e3
  · rename_i op ty a b ty2 ho
    simp only [ho, Pi.e2]
    replace e := evsA_ok ht e; obtain ⟨v, p, e, h1, h2⟩ := e
    replace e := evsA_ok ht e; obtain ⟨v', p', e, h3, h4⟩ := e
    simp only [h1, h3]
    obtain ⟨v, q, e1, e2, e3⟩ := binA_ok (h := X.h) h2 h4 e
    exact .ofV r e1 e2 e3
  · rename_i op ty a ho
    simp only [ho, Pi.e1]
    replace e := evsA_ok ht e; obtain ⟨v, p, e, h1, h2⟩ := e
    simp only [h1]
    obtain ⟨v, q, e1, e2, e3⟩ := unA_ok h2 e
    exact .ofV r e1 (vl_some e2) e3
  · rename_i s d a ho
    simp only [ho, Pi.e1]
    replace e := evsA_ok ht e; obtain ⟨v, p, e, h1, h2⟩ := e
    simp only [h1]
    obtain ⟨v, q, e1, e2, e3⟩ := convertA_ok (h := X.h) h2 e
    exact .ofV r e1 e2 e3
  · rename_i ty a ho
    simp only [ho, Pi.e1]
    replace e := evsA_ok ht e; obtain ⟨v, p, e, h1, h2⟩ := e
    simp only [h1]
    obtain ⟨v, q, e1, e2, e3⟩ := ifcA_ok (h := X.h) h2 e
    exact .ofV r e1 e2 e3
  · rename_i f first cap ho
    simp only [ho]
    replace e := evlA_ok ht e; obtain ⟨vs, ps, e, h1, h2⟩ := e
    replace e := evlA_ok ht e; obtain ⟨vs', ps', e, h3, h4⟩ := e
    simp only [h1, h3]
    split at e
    · cases e
    · rename_i f' hne
      refine .ofV r e (p := .fn f ps ps') ?_ (by simp only [VR]; exact ⟨_, _, rfl, h2, h4⟩)
      unfold Pi.evMakeFunc
      split
      · exact absurd rfl (hne _)
      · rfl
  · rename_i ty ho
    simp only [ho]
    unfold makeMapA at e
    split at e
    · split at e
      · rename_i k g c hk hc
        obtain ⟨hP', e1⟩ := new_ex X.h idP (.mp []) w.hp
        obtain ⟨Y, y1, y2, y3, y4⟩ := r.new (m := 0) (b := .mp k g c [] false) w.small w.lt w.pi w.hlt e1 (fun Y y1 y2 y3 u =>
          ⟨idP, 0, [], rfl, (y3 _).2 (.inr rfl), by rw [y2, (Hp.get_new e1).2.1, if_pos rfl], .nil⟩)
        rw [e1]
        refine .val e ⟨y2, y3, y4⟩ ?_
        simp only [VR]
        exact ⟨idP, 0, by rw [y1]; exact if_pos rfl, rfl⟩
      · cases e
    · cases e
  · rename_i ty a b ho
    simp only [ho, Pi.e2]
    replace e := evsA_ok ht e; obtain ⟨v, p, e, h1, h2⟩ := e
    replace e := evsA_ok ht e; obtain ⟨v', p', e, h3, h4⟩ := e
    simp only [h1, h3]
    refine (makeA_ok r w (fun hs => ?_) h2 h4 e).ev
    unfold sameTmp at hs
    split at hs
    · have := Nat.eq_of_beq_eq_true hs; subst this
      rw [h1] at h3; exact Option.some.inj h3
    · cases hs
  · rename_i ty a lo hi mx ho
    simp only [ho, Pi.e1]
    replace e := evoA_ok ht e; obtain ⟨vl, pl, e, l1, l2⟩ := e
    replace e := evoA_ok ht e; obtain ⟨vh, ph, e, i1, i2⟩ := e
    replace e := evoA_ok ht e; obtain ⟨vm, pm, e, m1, m2⟩ := e
    replace e := evsA_ok ht e; obtain ⟨v, p, e, h1, h2⟩ := e
    simp only [l1, i1, m1, h1]
    obtain ⟨v, q, hP', Y, e1, e2, e3, e4⟩ := sliceA_ok (id := id) (idP := idP) r w.big h2 l2 i2 m2 e
    rw [e2]; exact .val e1 e3 e4
  · rename_i s a f ho
    simp only [ho, Pi.e1]
    replace e := evsA_ok ht e; obtain ⟨v, p, e, h1, h2⟩ := e
    simp only [h1]
    obtain ⟨v, q, e1, e2, e3⟩ := fieldAddrA_ok h2 e
    exact .ofV r e1 e2 e3
  · rename_i ty a f ho
    simp only [ho, Pi.e1]
    replace e := evsA_ok ht e; obtain ⟨v, p, e, h1, h2⟩ := e
    simp only [h1]
    obtain ⟨v, q, e1, e2, e3⟩ := fieldA_ok (h := X.h) h2 e
    exact .ofV r e1 e2 e3
  · rename_i ty a b ho
    simp only [ho, Pi.e2]
    replace e := evsA_ok ht e; obtain ⟨v, p, e, h1, h2⟩ := e
    replace e := evsA_ok ht e; obtain ⟨v', p', e, h3, h4⟩ := e
    simp only [h1, h3]
    obtain ⟨v, q, e1, e2, e3⟩ := indexAddrA_ok r h2 h4 e
    exact .ofV r e1 e2 e3
  · rename_i ty a b ho
    simp only [ho, Pi.e2]
    replace e := evsA_ok ht e; obtain ⟨v, p, e, h1, h2⟩ := e
    replace e := evsA_ok ht e; obtain ⟨v', p', e, h3, h4⟩ := e
    simp only [h1, h3]
    obtain ⟨v, q, e1, e2, e3⟩ := indexA_ok (X := X) h2 h4 e
    exact .ofV r e1 e2 e3
  · rename_i ty a b ok ho
    simp only [ho, Pi.e2]
    replace e := evsA_ok ht e; obtain ⟨v, p, e, h1, h2⟩ := e
    replace e := evsA_ok ht e; obtain ⟨v', p', e, h3, h4⟩ := e
    simp only [h1, h3]
    obtain ⟨v, q, e1, e2, e3⟩ := lookupA_ok r h2 h4 e
    exact .ofV r e1 e2 e3
  · rename_i ty a k b ho
    simp only [ho, Pi.e3]
    replace e := evsA_ok ht e; obtain ⟨v, p, e, h1, h2⟩ := e
    replace e := evsA_ok ht e; obtain ⟨v', p', e, h3, h4⟩ := e
    replace e := evsA_ok ht e; obtain ⟨v'', p'', e, h5, h6⟩ := e
    simp only [h1, h3, h5]
    obtain ⟨h', hP', Y, e1, e2, e3⟩ := mapUpdateA_ok r w.big h2 h4 h6 id idP e
    rw [e2]; exact .skip e1 e3
  · rename_i ty a k b ho
    simp only [ho, Pi.e3]
    replace e := evsA_ok ht e; obtain ⟨v, p, e, h1, h2⟩ := e
    replace e := evsA_ok ht e; obtain ⟨v', p', e, h3, h4⟩ := e
    replace e := evsA_ok ht e; obtain ⟨v'', p'', e, h5, h6⟩ := e
    simp only [h1, h3, h5]
    obtain ⟨h', hP', Y, e1, e2, e3⟩ := mapUpdateA_ok r w.big h2 h4 h6 id idP e
    rw [e2]; exact .skip e1 e3
  · rename_i a ty1 ty ok ho
    simp only [ho, Pi.e1]
    replace e := evsA_ok ht e; obtain ⟨v, p, e, h1, h2⟩ := e
    simp only [h1]
    obtain ⟨v, q, e1, e2, e3⟩ := assertA_ok r h2 e
    exact .ofV r e1 e2 e3
  · rename_i a i ho
    simp only [ho, Pi.e1]
    replace e := evsA_ok ht e; obtain ⟨v, p, e, h1, h2⟩ := e
    simp only [h1]
    split at e
    · replace e := opt_some e; obtain ⟨v, hv, e⟩ := e
      simp only [VR] at h2
      obtain ⟨ps, rfl, h2⟩ := h2
      obtain ⟨q, q1, q2⟩ := h2.lget hv
      exact .ofV r e (vl_some q1) q2
    · cases e
  · rename_i a ho
    simp only [ho, Pi.e1]
    replace e := evsA_ok ht e; obtain ⟨v, p, e, h1, h2⟩ := e
    simp only [h1]
    split at e
    · have h2' := h2
      simp only [VR] at h2
      obtain ⟨q, rfl, h2⟩ := h2
      exact .pan e h2'
    · cases e
  · rename_i c ho
    simp only [ho]
    replace e := evlA_ok ht e; obtain ⟨vs, ps, e, h1, h2⟩ := e
    simp only [h1]
    split at e
    · rename_i b hb
      simp only [hb]
      rcases builtinA_ok r w h2 e with k | ⟨v, p, e1, e2, e3⟩ | ⟨e1, e2⟩
      · exact k.ev
      · rw [e2]; exact .pan e1 e3
      · rw [e2]; exact .rcv e1
    · rename_i f hf
      simp only [hf, Pi.e1]
      replace e := evsA_ok ht e; obtain ⟨v, p, e, h3, h4⟩ := e
      simp only [h3]
      split at e
      · simp only [VR] at h4
        obtain ⟨a', b', rfl, k1, k2⟩ := h4
        obtain ⟨g, as, ps', e1, e2, e3⟩ := invokeA_ok k1 k2 h2 e
        show EvOk X h n id idP K x (Pi.pinvoke P _ a' b' ps)
        rw [e2]; exact .call e1 e3
      · simp only [VR] at h4
        obtain ⟨pid, m, k1, rfl⟩ := h4
        exact .yield e k1 h2
      · cases e
    · rename_i recv name hf
      simp only [hf, Pi.e1]
      replace e := evsA_ok ht e; obtain ⟨v, p, e, h3, h4⟩ := e
      simp only [h3]
      obtain ⟨g, as, ps', e1, e2, e3⟩ := invokeA_ok (.cons h4 .nil) .nil h2 e
      rw [e2]; exact .call e1 e3
  · rename_i c ho
    simp only [ho]
    replace e := evlA_ok ht e; obtain ⟨vs, ps, e, h1, h2⟩ := e
    simp only [h1]
    split at e
    · rename_i b hb
      simp only [hb]
      exact .dfr e ⟨ps, rfl, h2⟩
    · rename_i f hf
      simp only [hf, Pi.e1]
      replace e := evsA_ok ht e; obtain ⟨v, p, e, h3, h4⟩ := e
      simp only [h3]
      split at e
      · have h4' := h4
        simp only [VR] at h4
        obtain ⟨a', b', rfl, k1, k2⟩ := h4
        exact .dfr e ⟨_, ps, rfl, h4', h2⟩
      · cases e
    · cases e
  · cases e
end
end Go.Proofs.YtopoaknleakdcaaGreat.Sv
namespace Go.Proofs.YtopoaknleakdcaaGreat.Sv
open Go.Proofs.YtopoaknleakdcaaGreat.Pi (PV T Hp Blk DF UM PE lget_eq lset_eq mapPur pur purl)
/-! Frames, and what a longer run leaves as it was. -/
def PER (X : Cx) (a : PEA) (b : PE) : Prop := VR X a.v b.v ∧ a.recovered = b.recovered
def UMR (X : Cx) : Option UMA → Option UM → Prop
  | none, u => u = none
  | some .ret, u => u = some .ret
  | some (.pan ch), u => ∃ c, u = some (.pan c) ∧ L2 (PER X) ch c
def ROR (X : Cx) : Option Nat → Option Nat → Prop
  | none, r => r = none
  | some l, r => ∃ p m, X.π l = some (.blk p m) ∧ r = some p
structure FR (X : Cx) (fr : FrA) (fp : Pi.Fr) : Prop where
  t : TR X fr.t fp.t
  nt : fp.nt = fr.nt
  big : fr.nt < 1048575
  ds : L2 (DFR X) fr.ds fp.ds
  up : UMR X fr.up fp.up
  ro : ROR X fr.ro fp.ro
def ExR (X : Cx) : ExA → Pi.Ex → Prop
  | .normal, e => e = .normal
  | .exit i, e => e = .exit i
  | .goto i, e => e = .goto i
  | .ret, e => e = .ret
  | .panic v, e => ∃ p, e = .panic p ∧ VR X v p
def OutR (X : Cx) : OutA → Pi.Out → Prop
  | .ret v, o => ∃ p, o = .ret p ∧ VR X v p
  | .pan ch, o => ∃ c, o = .pan c ∧ L2 (PER X) ch c
theorem UMR.mono {X Y : Cx} (u : Up X Y) {a : Option UMA} {b : Option UM} (h : UMR X a b) : UMR Y a b := by
  cases a with
  | none => exact h
  | some a => cases a with
    | ret => exact h
    | pan ch => obtain ⟨c, h1, h2⟩ := h; exact ⟨c, h1, h2.mono fun _ _ k => ⟨k.1.mono u, k.2⟩⟩
theorem ROR.mono {X Y : Cx} (u : Up X Y) {a b : Option Nat} (h : ROR X a b) : ROR Y a b := by
  cases a with
  | none => exact h
  | some l => obtain ⟨p, m, h1, h2⟩ := h; exact ⟨p, m, u.pi _ _ h1, h2⟩
theorem FR.mono {X Y : Cx} (u : Up X Y) {fr : FrA} {fp : Pi.Fr} (h : FR X fr fp) : FR Y fr fp :=
  ⟨h.t.mono u, h.nt, h.big, h.ds.mono fun _ _ k => k.mono u, h.up.mono u, h.ro.mono u⟩
/-- only the names below b -/
def Cx.low (X : Cx) (b : Nat) : Cx := { X with π := fun i => if i < b then X.π i else none }
theorem Cx.low_eq {X : Cx} {b i : Nat} (h : i < b) : (X.low b).π i = X.π i := if_pos h
theorem Cx.low_ge {X : Cx} {b i : Nat} (h : ¬ i < b) : (X.low b).π i = none := if_neg h
theorem Up.low (X : Cx) (b : Nat) : Up (X.low b) X := by
  refine ⟨fun i a h => ?_, fun _ _ _ _ h k => ⟨⟨_, k⟩, h⟩⟩
  by_cases hb : i < b
  · rw [Cx.low_eq hb] at h; exact h
  · rw [Cx.low_ge hb] at h; cases h
theorem Up.toLow {X : Cx} {h : H} {n b : Nat} (r : RH X h n) (hb : n ≤ b) : Up X (X.low b) := by
  refine ⟨fun i a h => ?_, fun _ _ _ _ h k => ⟨⟨_, k⟩, h⟩⟩
  rw [Cx.low_eq (Nat.lt_of_lt_of_le (r.dom _ _ h) hb)]; exact h
theorem Up.lowLe {X : Cx} {b c : Nat} (hb : b ≤ c) : Up (X.low b) (X.low c) := by
  refine ⟨fun i a h => ?_, fun _ _ _ _ h k => ⟨⟨_, k⟩, h⟩⟩
  by_cases hi : i < b
  · rw [Cx.low_eq hi] at h; rw [Cx.low_eq (by omega)]; exact h
  · rw [Cx.low_ge hi] at h; cases h
structure Ext (b bP : Nat) (X : Cx) (h : H) (Y : Cx) (h' : H) : Prop where
  up : Up (X.low b) Y
  pin : ∀ j, j < b → X.π j = none → Y.π j = none
  hpn : ∀ q, q < bP → X.h.get q = none → Y.h.get q = none
  nx : X.h.nx ≤ Y.h.nx
  lk : ∀ j c, h.get j = some c → c.locked = true → h'.get j = some c
  lps : ∀ q st pe nt t ps asg body d, X.h.get q = some (.lp st pe nt t ps asg body d) → ∃ st' pe', Y.h.get q = some (.lp st' pe' nt t ps asg body d)
theorem Ext.refl (b bP : Nat) (X : Cx) (h : H) : Ext b bP X h X h := ⟨Up.low X b, fun _ _ h => h, fun _ _ h => h, Nat.le_refl _, fun _ _ h _ => h, fun _ st pe _ _ _ _ _ _ h => ⟨st, pe, h⟩⟩
theorem Ext.trans {b bP : Nat} {X Y Z : Cx} {h h' h'' : H} (a : Ext b bP X h Y h') (c : Ext b bP Y h' Z h'') : Ext b bP X h Z h'' where
  up := by
    have u1 : Up (X.low b) (Y.low b) := by
      refine ⟨fun i x hi => ?_, a.up.rows⟩
      by_cases hb : i < b
      · rw [Cx.low_eq hb]; exact a.up.pi _ _ hi
      · rw [Cx.low_ge hb] at hi; cases hi
    exact u1.trans c.up
  pin := fun j hj k => c.pin j hj (a.pin j hj k)
  hpn := fun q hq k => c.hpn q hq (a.hpn q hq k)
  nx := Nat.le_trans a.nx c.nx
  lk := fun j x k l => c.lk j x (a.lk j x k l) l
  lps := fun q st pe nt t ps asg body d k => by
    obtain ⟨st', pe', k'⟩ := a.lps _ _ _ _ _ _ _ _ _ k
    exact c.lps _ _ _ _ _ _ _ _ _ k'
theorem Ext.le {b c bP cP : Nat} (hb : b ≤ c) (hp : bP ≤ cP) {X Y : Cx} {h h' : H} (a : Ext c cP X h Y h') : Ext b bP X h Y h' :=
  ⟨(Up.lowLe hb).trans a.up, fun j hj k => a.pin j (by omega) k, fun q hq k => a.hpn q (by omega) k, a.nx, a.lk, a.lps⟩
theorem St.ext {b bP id idP : Nat} {X Y : Cx} {h h' : H} (s : St X h id idP Y h') (hb : b ≤ id) (hp : bP ≤ idP) : Ext b bP X h Y h' :=
  ⟨(Up.low X b).trans s.up, fun j hj k => s.pin j (by omega) k, fun q hq k => s.hpn q (by omega) k, Nat.le_of_eq s.nx.symm, s.lk, fun q st pe nt t ps asg body d k => ⟨st, pe, s.lps _ _ _ _ _ _ _ _ _ k⟩⟩
/-- all names, where they are below b -/
theorem Ext.full {b bP n : Nat} {X Y : Cx} {h h' : H} (a : Ext b bP X h Y h') (r : RH X h n) (hb : n ≤ b) : Up X Y := (Up.toLow r hb).trans a.up

/-! Arguments and results of a typed call. -/
def domX (hh : Hp) (Q Q' : Nat → Prop) : (l : List (Bool × Ty)) → domDen l → List PV → Prop
  | [], _, ps => ps = []
  | [p], x, ps => ∃ a, ps = [a] ∧ EP p.1 (DX hh Q Q' p.2) x a
  | p :: q :: r, x, ps => ∃ a t, ps = a :: t ∧ EP p.1 (DX hh Q Q' p.2) x.1 a ∧ domX hh Q Q' (q :: r) x.2 t
def domP : (l : List (Bool × Ty)) → domDen l → List PV → Prop
  | [], _, ps => ps = []
  | [p], x, ps => ∃ a, ps = [a] ∧ EP p.1 (DP p.2) x a
  | p :: q :: r, x, ps => ∃ a t, ps = a :: t ∧ EP p.1 (DP p.2) x.1 a ∧ domP (q :: r) x.2 t
section
variable {X : Cx} {h : H} {n id idP : Nat} {β : Type} {x : β} {P : Program}
theorem decArgs_ok (r : RH X h n) {Q : Nat → Prop} (hQ : ∀ pid, X.Q pid → Q pid) : ∀ {l : List (Bool × Ty)} {vs : List V} {ps : List PV} {K : domDen l → Option β}, (∀ id pid m, id ∈ idsOf vs → X.π id = some (.blk pid m) → Q pid) → VRL X vs ps → decArgs h l vs K = some x → ∃ y, K y = some x ∧ domX X.h Q X.Q l y ps
  | [], vs, ps, K, hq, hv, e => by
    unfold decArgs at e
    split at e
    · exact ⟨(), e, hv.nil_inv⟩
    · cases e
  | [p], vs, ps, K, hq, hv, e => by
    unfold decArgs at e
    split at e
    · rename_i v
      obtain ⟨a, qs, rfl, h1, h2⟩ := hv.cons_inv
      obtain ⟨y, e1, k⟩ := decE_ok (Q := Q) r (fun id pid m hi hp => hq id pid m (by simpa [idsOf] using hi) hp) hQ h1 e
      exact ⟨y, e1, a, by rw [h2.nil_inv], k⟩
    · cases e
  | p :: q :: rr, vs, ps, K, hq, hv, e => by
    unfold decArgs at e
    split at e
    · rename_i v vs'
      obtain ⟨a, qs, rfl, h1, h2⟩ := hv.cons_inv
      obtain ⟨y, e1, k⟩ := decE_ok (Q := Q) r (fun id pid m hi hp => hq id pid m (by simp [idsOf, hi]) hp) hQ h1 e
      obtain ⟨z, e2, k2⟩ := decArgs_ok r hQ (l := q :: rr) (fun id pid m hi hp => hq id pid m (by
        simp only [idsOf, List.flatMap_cons, List.mem_append] at hi ⊢; exact .inr hi) hp) h2 e1
      exact ⟨(y, z), e2, a, qs, rfl, k, k2⟩
    · cases e
theorem domOk_cons {p : Bool × Ty} {l : List (Bool × Ty)} (h : domOk (p :: l) = true) : p.2.depth ≤ 4 ∧ (p.1 = true ∨ p.2.leaf = true) ∧ domOk l = true := by
  simp only [domOk, List.all_cons, Bool.and_eq_true, Bool.or_eq_true] at h ⊢
  exact ⟨Nat.le_of_ble_eq_true h.1.1, h.1.2, h.2⟩
theorem purl_dom {hh : Hp} {Q Q' : Nat → Prop} (f : ∀ i, Q' i → Q i) : ∀ {l : List (Bool × Ty)} {y : domDen l} {ps : List PV}, domOk l = true → domX hh Q Q' l y ps → ∃ as lP, purl hh ps = some (as, lP) ∧ domP l y as ∧ Met hh Q lP
  | [], y, ps, hd, h => by rw [show ps = [] from h]; exact ⟨[], [], rfl, rfl, .nil⟩
  | [p], y, ps, hd, ⟨a, h1, h2⟩ => by
    subst h1
    have hd' := (domOk_cons hd).1
    obtain ⟨q, ids, k1, k2, k3⟩ := purX (d := Pi.purDepth) f h2 (by show _ ≤ 12; omega)
    exact ⟨[q], ids ++ [], by simp only [purl, k1], ⟨q, rfl, k2⟩, k3.append .nil⟩
  | p :: q :: r, y, ps, hd, ⟨a, t, h1, h2, h3⟩ => by
    subst h1
    have hd' := domOk_cons hd
    obtain ⟨b, ids, k1, k2, k3⟩ := purX (d := Pi.purDepth) f h2 (by show _ ≤ 12; omega)
    obtain ⟨bs, ids', m1, m2, m3⟩ := purl_dom f (l := q :: r) hd'.2.2 h3
    exact ⟨b :: bs, ids ++ ids', by rw [purl, k1, m1], ⟨b, bs, rfl, k2, m2⟩, k3.append m3⟩
/-- a result -/
def resX (hh : Hp) : (l : List (Bool × Ty)) → domDen l → PV → Prop
  | [p], y, r => EP p.1 (DX hh (fun _ => True) (fun _ => True) p.2) y r
  | l, y, r => ∃ rs, r = .tup rs ∧ domX hh (fun _ => True) (fun _ => True) l y rs
def resP : (l : List (Bool × Ty)) → domDen l → PV → Prop
  | [p], y, r => EP p.1 (DP p.2) y r
  | l, y, r => ∃ rs, r = .tup rs ∧ domP l y rs
theorem DP.flat : ∀ {c : Ty} {y : c.den} {ps : List PV}, c.hasSl = false → DP c y ps → Pi.flatl ps = true
  | .int _, _, _, _, e => by subst e; rfl
  | .bool, _, _, _, e => by subst e; rfl
  | .str, _, _, _, e => by subst e; rfl
  | .unit, _, _, _, e => by subst e; rfl
  | .pair a b, _, _, hs, ⟨p, q, e, h1, h2⟩ => by
    subst e
    simp only [Ty.hasSl, Bool.or_eq_false_iff] at hs
    have f1 := DP.flat hs.1 h1
    have f2 := DP.flat hs.2 h2
    clear h1 h2
    induction p with
    | nil => exact f2
    | cons a p ih =>
      simp only [Pi.flatl, Bool.and_eq_true] at f1
      simp only [List.cons_append, Pi.flatl, f1.1, Bool.true_and]
      exact ih f1.2
  | .sl _ _, _, _, hs, _ => by cases hs
theorem EP.flat {g : Bool} {c : Ty} {y : c.den} {e : PV} (hs : c.hasSl = false) (h : EP g (DP c) y e) : Pi.flat e = true := by
  cases g with
  | true => obtain ⟨cs, rfl, h⟩ := h; exact DP.flat hs h
  | false =>
    have := DP.flat hs (show DP c y [e] from h)
    simpa [Pi.flatl] using this
theorem domP_flat : ∀ {l : List (Bool × Ty)} {y : domDen l} {ps : List PV}, codSl l = false → domP l y ps → Pi.flatl ps = true
  | [], _, _, _, h => by rw [show _ = [] from h]; rfl
  | [p], _, _, hs, ⟨a, h1, h2⟩ => by
    subst h1
    have : p.2.hasSl = false := by simpa [codSl] using hs
    simp [Pi.flatl, EP.flat this h2]
  | p :: q :: r, _, _, hs, ⟨a, t, h1, h2, h3⟩ => by
    subst h1
    have h4 : p.2.hasSl = false ∧ codSl (q :: r) = false := by simpa [codSl] using hs
    simp only [Pi.flatl, EP.flat h4.1 h2, Bool.true_and]
    exact domP_flat h4.2 h3
theorem resP_flat {l : List (Bool × Ty)} {y : domDen l} {r : PV} (hs : codSl l = false) (h : resP l y r) : Pi.flat r = true := by
  match l, y, h with
  | [], y, ⟨rs, h1, h2⟩ => subst h1; exact domP_flat hs h2
  | [p], y, h => exact EP.flat (by simpa [codSl] using hs) h
  | p :: q :: rr, y, ⟨rs, h1, h2⟩ => subst h1; exact domP_flat hs h2
theorem domP_vals : ∀ {l : List (Bool × Ty)} {y : domDen l} {ps : List PV}, domP l y ps → VRL X (valsOf l y) ps
  | [], _, _, h => by rw [show _ = [] from h]; exact .nil
  | [p], _, _, ⟨a, h1, h2⟩ => by subst h1; exact .cons (elV_ok h2.upP) .nil
  | p :: q :: r, _, _, ⟨a, t, h1, h2, h3⟩ => by subst h1; exact .cons (elV_ok h2.upP) (domP_vals h3)
theorem resP_val {l : List (Bool × Ty)} {y : domDen l} {r : PV} (h : resP l y r) : VR X (valR l y) r := by
  match l, y, h with
  | [], y, ⟨rs, h1, h2⟩ =>
    subst h1
    show VR X (.tup []) (.tup rs)
    have h2' : rs = [] := h2
    subst h2'
    simp only [VR]
    exact ⟨[], rfl, .nil⟩
  | [p], y, h => exact elV_ok (EP.upP h)
  | p :: q :: rr, y, ⟨rs, h1, h2⟩ =>
    subst h1
    have hv : valR (p :: q :: rr) y = .tup (valsOf (p :: q :: rr) y) := by
      unfold valR
      cases rr with
      | nil => rfl
      | cons => rfl
    rw [hv]
    simp only [VR]
    exact ⟨rs, rfl, domP_vals h2⟩
theorem mapPur_fst : ∀ {f : PV → Option (PV × List Nat)} {ps : List PV} {k : Nat} {qs : List PV} {l : List Nat}, mapPur f ps = some (qs, l) → ∃ l', mapPur f (ps.take k) = some (qs.take k, l')
  | f, [], k, qs, l, e => by cases e; exact ⟨[], by simp [mapPur]⟩
  | f, p :: ps, 0, qs, l, e => ⟨[], by simp [mapPur]⟩
  | f, p :: ps, k + 1, qs, l, e => by
    simp only [mapPur] at e
    split at e
    · rename_i q a qs' b e1 e2
      cases e
      obtain ⟨l', k1⟩ := mapPur_fst (k := k) e2
      exact ⟨a ++ l', by simp [mapPur, e1, k1]⟩
    · cases e
theorem purl_map {hh : Hp} : ∀ {ps : List PV}, purl hh ps = mapPur (pur hh Pi.purDepth) ps
  | [] => rfl
  | p :: ps => by
    rw [purl, mapPur, purl_map]
theorem met0 (Q : Nat → Prop) (hh : Hp) : Met hh Q [] := .nil
/-- marks on one side alone -/
theorem RH.flag (r : RH X h n) (hn : n ≤ 1048575) {ids : List Nat} {h' : H} (hk : Kn X ids) (e : freezeA h ids = some h') : ∃ Y : Cx, Y.π = X.π ∧ Y.O = X.O ∧ Y.h = X.h ∧ RH Y h' n ∧ ∀ id idP, St X h id idP Y h' := by
  obtain ⟨Y, y1, y2, y3, y4, _⟩ := r.frozen (lP := []) hn hk e rfl (fun q => by simp) (fun q hq => by cases hq) 0 0
  have : Y = X := by
    cases Y; cases X
    simp only at y1 y2 y3
    subst y1; subst y2; subst y3; rfl
  subst this
  refine ⟨Y, rfl, rfl, rfl, y4, fun id idP => ?_⟩
  obtain ⟨Y2, z1, z2, z3, z4, z5⟩ := r.frozen (lP := []) hn hk e rfl (fun q => by simp) (fun q hq => by cases hq) id idP
  have : Y2 = Y := by
    cases Y2; cases Y
    simp only at z1 z2 z3
    subst z1; subst z2; subst z3; rfl
  subst this; exact z5
theorem RH.borrow (r : RH X h n) {bP : Blk} {hP : Hp} (hlt : idP < X.h.nx) (e : X.h.new idP bP = some hP) (hnl : ∀ st pe nt t ps asg body d, bP ≠ .lp st pe nt t ps asg body d) : ∃ Y : Cx, Y.π = X.π ∧ Y.O = X.O ∧ Y.h = hP ∧ RH Y h n ∧ ∀ id, St X h id idP Y h := by
  obtain ⟨g0, g1, g2⟩ := Hp.get_new e
  let Y : Cx := { π := X.π, h := hP, O := X.O }
  have hO : ∀ q, X.O q → q ≠ idP := fun q hq hh => by subst hh; exact r.ob _ hq g0
  have u : Up X Y := ⟨fun _ _ h => h, fun q es ex fz hq hg => ⟨⟨fz, by
    show hP.get q = _
    rw [g1, if_neg (by intro hh; subst hh; rw [g0] at hg; cases hg), hg]⟩, hq⟩⟩
  refine ⟨Y, rfl, rfl, rfl, ⟨fun i b hi => (r.blk _ _ hi).keep u fun q m hq hO' => ⟨?_, hO'⟩, r.inj, r.dom, fun q hq => ?_, fun q hq => ?_⟩, fun id => ⟨u, g2, fun _ _ h => h, fun q hq hn => ?_, fun _ _ h _ => h, fun q st pe nt t ps asg body d hq => ?_⟩⟩
  · show hP.get q = _
    rw [g1, if_neg (hO _ hO')]
  · show hP.get q = none
    have hq' : X.h.nx ≤ q := by rw [← g2]; exact hq
    rw [g1, if_neg (by omega)]; exact r.fresh _ hq'
  · show hP.get q ≠ none
    rw [g1, if_neg (hO _ hq)]; exact r.ob _ hq
  · show hP.get q = none
    rw [g1, if_neg hq]; exact hn
  · show hP.get q = _
    rw [g1, if_neg (by intro hh; subst hh; rw [g0] at hq; cases hq)]; exact hq
theorem pur_res {hR : Hp} {l : List (Bool × Ty)} {y : domDen l} {rP : PV} (hd : domOk l = true) (hr : resX hR l y rP) : ∃ q ids, pur hR Pi.purDepth rP = some (q, ids) ∧ resP l y q := by
  have tup : ∀ {rs : List PV}, domX hR (fun _ => True) (fun _ => True) l y rs → ∃ qs ids, pur hR Pi.purDepth (.tup rs) = some (.tup qs, ids) ∧ domP l y qs := by
    intro rs hx
    have : ∀ {l : List (Bool × Ty)} {y : domDen l} {rs : List PV}, domOk l = true → domX hR (fun _ => True) (fun _ => True) l y rs → ∃ qs ids, mapPur (pur hR 11) rs = some (qs, ids) ∧ domP l y qs := by
      intro l
      induction l with
      | nil => intro y rs _ h; rw [show rs = [] from h]; exact ⟨[], [], rfl, rfl⟩
      | cons p l ih =>
        intro y rs hd h
        cases l with
        | nil =>
          obtain ⟨a, rfl, h2⟩ := h
          have hd' : p.2.depth ≤ 4 := by
            have : Nat.ble p.2.depth 4 = true := by simp only [domOk, List.all_cons, List.all_nil, Bool.and_true, Bool.and_eq_true] at hd; exact hd.1
            exact Nat.le_of_ble_eq_true this
          obtain ⟨q, ids, k1, k2, k3⟩ := purX (d := 11) (fun _ h => h) h2 (by omega)
          exact ⟨[q], ids ++ [], by simp only [mapPur, k1], q, rfl, k2⟩
        | cons q r =>
          obtain ⟨a, t, rfl, h2, h3⟩ := h
          have hd' : p.2.depth ≤ 4 ∧ domOk (q :: r) = true := by
            simp only [domOk, List.all_cons, Bool.and_eq_true] at hd ⊢
            exact ⟨Nat.le_of_ble_eq_true hd.1.1, hd.2⟩
          obtain ⟨b, ids, k1, k2, k3⟩ := purX (d := 11) (fun _ h => h) h2 (by omega)
          obtain ⟨qs, ids', m1, m2⟩ := ih hd'.2 h3
          exact ⟨b :: qs, ids ++ ids', by rw [mapPur, k1, m1], b, qs, rfl, k2, m2⟩
    obtain ⟨qs, ids, k1, k2⟩ := this hd hx
    exact ⟨qs, ids, by rw [show Pi.purDepth = 11 + 1 from rfl, pur_tup, k1]; rfl, k2⟩
  match l, y, hr with
  | [], y, ⟨rs, h1, h2⟩ => subst h1; obtain ⟨qs, ids, k1, k2⟩ := tup h2; exact ⟨_, ids, k1, qs, rfl, k2⟩
  | [p], y, h =>
    have hd' : p.2.depth ≤ 4 := by
      have : Nat.ble p.2.depth 4 = true := by simp only [domOk, List.all_cons, List.all_nil, Bool.and_true, Bool.and_eq_true] at hd; exact hd.1
      exact Nat.le_of_ble_eq_true this
    obtain ⟨q, ids, k1, k2, k3⟩ := purX (d := Pi.purDepth) (fun _ h => h) h (by show _ ≤ 12; omega)
    exact ⟨q, ids, k1, k2⟩
  | p :: q :: rr, y, ⟨rs, h1, h2⟩ => subst h1; obtain ⟨qs, ids, k1, k2⟩ := tup h2; exact ⟨_, ids, k1, qs, rfl, k2⟩
theorem mapPur_len {f : PV → Option (PV × List Nat)} : ∀ {a : List PV} {b : List PV} {l : List Nat}, mapPur f a = some (b, l) → b.length = a.length
  | [], b, l, h => by cases h; rfl
  | p :: a, b, l, h => by
    simp only [mapPur] at h
    split at h
    · rename_i e2; cases h; simp [mapPur_len e2]
    · cases h
theorem pur_cells {hh : Hp} : ∀ {d : Nat} {v q : PV} {l : List Nat}, pur hh d v = some (q, l) → q.cells.length = v.cells.length
  | 0, v, q, l, e => by cases e
  | d + 1, v, q, l, e => by
    cases v with
    | agg cs =>
      rw [pur_agg] at e
      obtain ⟨⟨x, m⟩, h1, h2⟩ := Pi.mapOpt e
      cases h2; exact mapPur_len h1
    | tup cs =>
      rw [pur_tup] at e
      obtain ⟨⟨x, m⟩, h1, h2⟩ := Pi.mapOpt e
      cases h2; rfl
    | ifc t v =>
      rw [pur_ifc] at e
      obtain ⟨⟨x, m⟩, h1, h2⟩ := Pi.mapOpt e
      cases h2; rfl
    | fn f a b =>
      rw [pur_fn] at e
      split at e
      · cases e; rfl
      · cases e
    | own id off len =>
      simp only [pur] at e
      split at e
      · replace e := bifY e; obtain ⟨_, e⟩ := e
        obtain ⟨⟨x, m⟩, h1, h2⟩ := Pi.mapOpt e
        cases h2; rfl
      · cases e
    | ptr id off =>
      simp only [pur] at e
      split at e
      · replace e := bifY e; obtain ⟨_, e⟩ := e
        obtain ⟨⟨x, m⟩, h1, h2⟩ := Pi.mapOpt e
        cases h2; rfl
      · cases e
    | ept id i off =>
      simp only [pur] at e
      split at e
      · split at e
        · replace e := bifY e; obtain ⟨_, e⟩ := e
          obtain ⟨⟨x, m⟩, h1, h2⟩ := Pi.mapOpt e
          cases h2; rfl
        · cases e
      · cases e
    | yl | mp => cases e
    | _ => cases e; rfl
/-- what a pure call hands back -/
theorem handBack_ok (r : RH X h n) (hn : n ≤ 1048575) (hp : X.h.get idP = none) (hlt : idP < X.h.nx) {l : List (Bool × Ty)} {y : domDen l} {hR : Hp} {rP : PV} {ids lP : List Nat} {h' : H} (hd : domOk l = true) (hr : resX hR l y rP)
    (hm : MetA X ids lP) (hk : Kn X ids) (hf : (bif codSl l then freezeA h ids else some h) = some h') (id : Nat) :
    ∃ q hP' Y, Pi.handBack idP lP X.h hR rP = some (q, hP') ∧ HOk X h n id idP h' hP' Y ∧ VR Y (valR l y) q := by
  -- the heap as it is, or marked
  have same : ∃ Y, HOk X h n id idP h' X.h Y := by
    cases hc : codSl l with
    | true =>
      rw [hc] at hf
      obtain ⟨Y, y1, y2, y3, y4, y5⟩ := r.flag hn hk hf
      exact ⟨Y, y3, y4, y5 _ _⟩
    | false =>
      rw [hc] at hf
      cases hf
      exact ⟨X, rfl, r, St.refl _ _ _ _⟩
  have marked : codSl l = true → ∃ hP' Y, Pi.freeze X.h lP = some hP' ∧ HOk X h n id idP h' hP' Y := fun hc => by
    rw [hc] at hf
    obtain ⟨hP', Y, f1, y1, y2, y3⟩ := r.mark hn hm hk hf id idP
    exact ⟨hP', Y, f1, y3⟩
  obtain ⟨q, pids, hpur, hres⟩ := pur_res hd hr
  unfold Pi.handBack
  split
  · rename_i len qs ex hS
    -- an own row
    split at hS
    · rename_i j len'
      split at hS
      · rename_i es ex' hj
        split at hS
        · rename_i qs' l2 hq
          replace hS := bifN hS; obtain ⟨_, hS⟩ := hS
          cases hS
          -- which code it has
          have code : ∃ g c, l = [(false, .sl g c)] := by
            match l, y, hr with
            | [], y, ⟨rs, h1, h2⟩ => cases h1
            | p :: q :: rr, y, ⟨rs, h1, h2⟩ => cases h1
            | [(true, c)], y, ⟨cs, h1, h2⟩ => cases h1
            | [(false, .sl g c)], y, _ => exact ⟨g, c, rfl⟩
            | [(false, .int _)], y, h => cases (show [PV.own j 0 len] = _ from h)
            | [(false, .bool)], y, h => cases (show [PV.own j 0 len] = _ from h)
            | [(false, .str)], y, h => cases (show [PV.own j 0 len] = _ from h)
            | [(false, .unit)], y, h => cases (show [PV.own j 0 len] = _ from h)
            | [(false, .pair a b)], y, h => simp [domOk, Ty.leaf] at hd
          obtain ⟨g, c, rfl⟩ := code
          have hc : codSl [(false, Ty.sl g c)] = true := rfl
          have hr' : DX hR (fun _ => True) (fun _ => True) (.sl g c) y [.own j 0 len] := hr
          obtain ⟨p0, hp0, hrr⟩ := hr'
          have hp0' : PV.own j 0 len = p0 := by simpa using hp0
          subst hp0'
          rcases hrr with ⟨h1, _⟩ | ⟨_, _, h1, _⟩ | ⟨pid, off, len2, es2, ex2, fz2, h1, _, h3, h4, h8, h5⟩
          · cases h1
          · cases h1
          · cases h1
            rw [hj] at h3; cases h3
            have hd' : c.depth + 1 ≤ 4 := by
              have : Nat.ble (Ty.sl g c).depth 4 = true := by simp only [domOk, List.all_cons, List.all_nil, Bool.and_true, Bool.and_eq_true] at hd; exact hd.1
              exact Nat.le_of_ble_eq_true this
            obtain ⟨qs2, ids2, k1, k2, k3⟩ := purL2 (fun y e hE => purEP (d := Pi.purDepth) (fun hh' d' hd' => purDR hh' d' hd') (by show _ ≤ 12; omega) hE) h5
            rw [purl_map] at hq
            obtain ⟨l', k4⟩ := mapPur_fst (k := len) hq
            rw [List.drop_zero] at k1
            rw [k1] at k4
            cases k4
            have hlen : qs.length = es.length := mapPur_len hq
            have hok : Pi.elOk c.wd qs = true := by
              cases es with
              | nil => cases qs with
                | nil => rfl
                | cons => simp at hlen
              | cons e0 t =>
                simp only [mapPur] at hq
                split at hq
                · rename_i q0 a0 qs0 b0 f1 f2
                  cases hq
                  simp only [Pi.elOk] at h8 ⊢
                  rw [pur_cells f1]; exact h8
                · cases hq
            have fin : ∀ {hP2 : Hp} {Y : Cx}, HOk X h n id idP h' hP2 Y → (hP2.get idP = none) → ∃ q hP' Y, ((hP2.new idP (.row qs ex false)).map fun h => (PV.own idP 0 len, h)) = some (q, hP') ∧ HOk X h n id idP h' hP' Y ∧ VR Y (valR [(false, .sl g c)] y) q := by
              intro hP2 Y ⟨y1, y2, y3⟩ hnone
              obtain ⟨hP', e1⟩ := new_ex hP2 idP (.row qs ex false) hnone
              subst y1
              obtain ⟨Z, z1, z2, z3, z4, z5⟩ := y2.borrow (by rw [y3.nx]; exact hlt) e1 (by intros; simp)
              refine ⟨_, hP', Z, by rw [e1]; rfl, ⟨z3, z4, y3.trans (z5 id)⟩, ?_⟩
              show VR Z (.lf false g c y) (.own idP 0 len)
              simp only [VR]
              refine .inr (.inr ⟨idP, 0, len, qs, ex, false, rfl, by simp, fun hO => ?_, by rw [z3, (Hp.get_new e1).2.1, if_pos rfl], by rw [hlen]; exact h4, hok, by rw [List.drop_zero]; exact EPL.up k2⟩)
              rw [z2] at hO
              exact y2.ob _ hO hnone
            cases hfl : Pi.flatl qs with
            | true =>
              obtain ⟨Y, hY⟩ := same
              simp only [cond_true]
              exact fin hY hp
            | false =>
              obtain ⟨hP2, Y, f1, hY⟩ := marked hc
              simp only [cond_false, f1]
              refine fin hY ?_
              rw [← hY.1]
              obtain ⟨hP3, f2, f3, f4⟩ := freeze_ok (Q := fun i => X.Q i ∨ ∃ id ∈ ids, ∃ m, X.π id = some (.blk i m)) hm
              rw [f1] at f2; cases f2
              rw [hY.1, f4, hp]
              split <;> rfl
        · cases hS
      · cases hS
    · cases hS
  · -- data
    simp only [hpur]
    cases hfl : Pi.flat q with
    | true =>
      obtain ⟨Y, hY⟩ := same
      exact ⟨q, X.h, Y, rfl, hY, resP_val hres⟩
    | false =>
      have hc : codSl l = true := by
        cases hc : codSl l with
        | true => rfl
        | false => rw [resP_flat hc hres] at hfl; cases hfl
      obtain ⟨hP2, Y, f1, hY⟩ := marked hc
      exact ⟨q, hP2, Y, by simp [f1], hY, resP_val hres⟩
end
end Go.Proofs.YtopoaknleakdcaaGreat.Sv
namespace Go.Proofs.YtopoaknleakdcaaGreat.Sv
open Go.Proofs.YtopoaknleakdcaaGreat.Pi (PV T Hp Blk DF UM PE lget_eq lset_eq mapPur pur purl)
def shOf (tab : Tab) (f : FuncId) : Bool := (tab f).isNone
/-- the elder evaluator comes to r, whatever it is given to burn beyond some bound -/
def PD (P : Program) (tab : Tab) (tg : Pi.Tg) (up : Option UM) (args : List PV) (h : Hp) (r : Pi.Out × Option UM × Hp) : Prop :=
  ∃ N, ∀ F n, N ≤ F → N ≤ n → Pi.doN P (shOf tab) F n tg up args h = some r
def TabOK (P : Program) (tab : Tab) : Prop := ∀ f sg, tab f = some (some sg) → ∀ x y, sg.fn x = some y → ∀ as, domP sg.dom x as → ∃ r up hR, PD P tab (.fn f) none as hp0 (.ret r, up, hR) ∧ resX hR sg.cod y r
/-- what a part of a run comes to, beside its own outcome -/
structure Run (b bP : Nat) (X : Cx) (h : H) (nx : Nat) (Y : Cx) (h' : H) (nx' : Nat) (hP' : Hp) : Prop where
  hp : Y.h = hP'
  rh : RH Y h' nx'
  big : nx' ≤ 1048575
  le : nx ≤ nx'
  ext : Ext b bP X h Y h'
structure RecAOK (P : Program) (tab : Tab) (rec : RecA) : Prop where
  fn : ∀ {β : Type} {x : β} {f up args h nx K}, rec β (.fn f) up args h nx K = some x → ∀ {X upP ps}, RH X h nx → nx ≤ 1048575 → VRL X args ps → UMR X up upP →
    ∃ o up' h' nx' Y oP upP' hP', K o up' h' nx' = some x ∧ PD P tab (.fn f) upP ps X.h (oP, upP', hP') ∧ Run nx X.h.nx X h nx Y h' nx' hP' ∧ OutR Y o oP ∧ UMR Y up' upP'
  yl : ∀ {β : Type} {x : β} {l args h nx K}, rec β (.yl l) none args h nx K = some x → ∀ {X lP m ps}, RH X h nx → nx ≤ 1048575 → X.π l = some (.blk lP m) → VRL X args ps →
    ∃ o up' h' nx' Y oP upP' hP', K o up' h' nx' = some x ∧ PD P tab (.yl lP) none ps X.h (oP, upP', hP') ∧ Run nx X.h.nx X h nx Y h' nx' hP' ∧ OutR Y o oP ∧ UMR Y up' upP'
section
variable {P : Program} {tab : Tab} {rec : RecA} {β : Type} {x : β}
theorem callT_ok (T : TabOK P tab) {X : Cx} {h : H} {n id idP : Nat} (r : RH X h n) (w : Nw X n id idP) {f : FuncId} {sg : Sg} (hf : tab f = some (some sg)) {args : List V} {ps : List PV} {K : V → H → Option β} (ha : VRL X args ps) (e : callT h sg args K = some x) :
    ∃ v h' q hP' Y, K v h' = some x ∧ (∃ N, ∀ F n, N ≤ F → N ≤ n → Pi.doCall (shOf tab) (Pi.doN P (shOf tab) F n) idP f ps X.h = some (.ret q, hP')) ∧ HOk X h n id idP h' hP' Y ∧ VR Y v q := by
  unfold callT at e
  replace e := bifN e; obtain ⟨hd, e⟩ := e
  simp only [Bool.or_eq_false_iff, Bool.not_eq_false'] at hd
  obtain ⟨hd1, hd2⟩ := hd
  let Q : Nat → Prop := fun pid => X.Q pid ∨ ∃ id ∈ idsOf args, ∃ m, X.π id = some (.blk pid m)
  have e' := e
  -- the names of own rows among the arguments are known
  replace e := decArgs_ok (Q := Q) r (fun _ h => .inl h) (fun id pid m hi hp => .inr ⟨id, hi, m, hp⟩) ha e; obtain ⟨y, e, hdx⟩ := e
  replace e := opt_some e; obtain ⟨h', hfr, e⟩ := e
  replace e := bd_some e; obtain ⟨z, hz, e⟩ := e
  obtain ⟨as, lP, hpl, hdp, hmet⟩ := purl_dom (fun _ h => .inl h) hd1 hdx
  obtain ⟨rP, up, hR, ⟨N, hN⟩, hres⟩ := T f sg hf y z hz as hdp
  have hk : Kn X (idsOf args) := by
    intro i hi
    have : ∀ {vs : List V} {ps : List PV}, VRL X vs ps → ∀ i ∈ idsC vs, ∃ a, X.π i = some a := by
      intro vs
      induction vs with
      | nil => intro ps _ i hi; cases hi
      | cons v vs ih =>
        intro ps hv i hi
        obtain ⟨p, qs, rfl, h1, h2⟩ := hv.cons_inv
        cases v with
        | ow j =>
          rcases List.mem_cons.1 hi with rfl | hi
          · simp only [VR] at h1
            cases hp : X.π i with
            | none => rw [hp] at h1; exact h1.elim
            | some a => exact ⟨a, rfl⟩
          · exact ih h2 i hi
        | own j a b =>
          rcases List.mem_cons.1 hi with rfl | hi
          · simp only [VR] at h1
            obtain ⟨pid, m, h3, _⟩ := h1; exact ⟨_, h3⟩
          · exact ih h2 i hi
        | _ => exact ih h2 i hi
    unfold idsOf at hi
    obtain ⟨v, hv, hi⟩ := List.mem_flatMap.1 hi
    have hmem : ∀ {vs : List V} {ps : List PV}, VRL X vs ps → v ∈ vs → ∃ p, VR X v p := by
      intro vs
      induction vs with
      | nil => intro ps _ hv; cases hv
      | cons u vs ih =>
        intro ps hvs hv
        obtain ⟨p, qs, rfl, h1, h2⟩ := hvs.cons_inv
        rcases List.mem_cons.1 hv with rfl | hv
        · exact ⟨p, h1⟩
        · exact ih h2 hv
    obtain ⟨p, hp⟩ := hmem ha hv
    exact this hp.cells i hi
  obtain ⟨q, hP', Y, h1, h2, h3⟩ := handBack_ok r w.big w.hp w.hlt hd2 hres hmet hk hfr id
  refine ⟨_, h', q, hP', Y, e, ⟨N, fun F n hF hn => ?_⟩, h2, h3⟩
  unfold Pi.doCall
  have hsh : shOf tab f = false := by unfold shOf; rw [hf]; rfl
  simp only [hsh, cond_false, hpl]
  rw [show ({ m := .lf, nx := 0 } : Hp) = hp0 from rfl, hN F n hF hn]
  simp only [h1]; rfl
theorem putA_ok {X : Cx} {fr : FrA} {fp : Pi.Fr} (f : FR X fr fp) {d : Option Nat} {v : V} {p : PV} {K : FrA → Option β} (hv : VR X v p) (e : putA fr d v K = some x) : ∃ fr' fp', K fr' = some x ∧ fp.put d p = some fp' ∧ FR X fr' fp' := by
  unfold putA at e
  unfold Pi.Fr.put
  split at e
  · exact ⟨fr, fp, e, rfl, f⟩
  · rename_i d
    replace e := bifY e; obtain ⟨hd, e⟩ := e
    have hd' : d < fr.nt := by simpa using hd
    have hb := f.big
    exact ⟨_, { fp with t := T.put 20 fp.t d p }, e, by simp only [f.nt, hd, cond_true], ⟨f.t.put (by omega) hv, f.nt, f.big, f.ds, f.up, f.ro⟩⟩
theorem guardA_ok {X : Cx} {ops : List Oper} {t : T V} {tP : T PV} (ht : TR X t tP) {nt : Nat} (hnt : nt < 1048575) (hops : ∀ o ∈ ops, ∀ d, o.dst = some d → d < nt) {g : Option (Nat × Bool)} {yes no : T V → Option β} (e : guardA ops t g yes no = some x) :
    ∃ t', TR X t' tP ∧ ((yes t' = some x ∧ Pi.wantedP ops tP g = true) ∨ (no t' = some x ∧ Pi.wantedP ops tP g = false)) := by
  unfold guardA at e
  unfold Pi.wantedP
  split at e
  · exact ⟨t, ht, .inl ⟨e, rfl⟩⟩
  · rename_i j want
    split at e
    · rename_i o ho
      simp only [ho]
      split at e
      · rename_i d hd
        simp only [hd]
        have hdb : d < 1048575 := by
          exact Nat.lt_trans (hops o (by rw [lget_eq] at ho; exact List.mem_of_getElem? ho) d hd) hnt
        split at e
        · rename_i b hb
          obtain ⟨p, hp, hv⟩ := ht _ _ hb
          simp only [VR] at hv; subst hv
          simp only [hp]
          have same : ∀ c : Bool, b = c → TR X (T.put 20 t d (.bool c)) tP := by
            intro c hc
            subst hc
            intro k v hk
            have h20 : (2 : Nat) ^ 20 - 1 = 1048575 := by decide
            rw [T.get_put 20 t d _ k (by omega)] at hk
            by_cases hkd : k = d
            · rw [if_pos hkd] at hk; cases hk; rw [hkd]; exact ⟨_, hp, by simp [VR]⟩
            · rw [if_neg hkd] at hk; exact ht _ _ hk
          replace e := br_some e
          rcases e with ⟨hc, e⟩ | ⟨hc, e⟩
          · subst hc
            refine ⟨_, same true rfl, ?_⟩
            cases want with
            | true => exact .inl ⟨e, rfl⟩
            | false => exact .inr ⟨e, rfl⟩
          · subst hc
            refine ⟨_, same false rfl, ?_⟩
            cases want with
            | true => exact .inr ⟨e, rfl⟩
            | false => exact .inl ⟨e, rfl⟩
        · rename_i hb
          obtain ⟨p, hp, hv⟩ := ht _ _ hb
          simp only [VR, VRL] at hv
          obtain ⟨ps, rfl, rfl⟩ := hv
          simp only [hp]
          exact ⟨t, ht, .inr ⟨e, by first | rfl | trivial⟩⟩
        · cases e
      · cases e
    · cases e
def FreshAt (X : Cx) (base baseP i k : Nat) : Prop := ∀ j, i ≤ j → j < i + k → X.π (base + j) = none ∧ X.h.get (baseP + j) = none
theorem runOpsA_ok (R : RecAOK P tab rec) (T : TabOK P tab) {base baseP b bP : Nat} (hb : b ≤ base) (hbP : bP ≤ baseP) {all : List Oper} :
    ∀ {ops : List Oper} {i : Nat} {X : Cx} {fr : FrA} {fp : Pi.Fr} {h : H} {nx : Nat} {K : KA β}, runOpsA P tab rec base all (Pi.idx i ops) fr h nx K = some x →
      RH X h nx → nx ≤ 1048575 → FR X fr fp → (∀ o ∈ all, ∀ d, o.dst = some d → d < fr.nt) → FreshAt X base baseP i ops.length → base + i + ops.length ≤ nx → baseP + i + ops.length ≤ X.h.nx →
      ∃ ex fr' h' nx' Y exP fp' hP', K ex fr' h' nx' = some x ∧ (∃ N, ∀ F n, N ≤ F → N ≤ n → Pi.runOps P (shOf tab) (Pi.doN P (shOf tab) F n) baseP all (Pi.idx i ops) fp X.h = some (exP, fp', hP')) ∧ Run b bP X h nx Y h' nx' hP' ∧ FR Y fr' fp' ∧ ExR Y ex exP := by
  intro ops
  induction ops with
  | nil =>
    intro i X fr fp h nx K e r hn f _ _ _ _
    exact ⟨.normal, fr, h, nx, X, .normal, fp, X.h, e, ⟨0, fun _ _ _ _ => rfl⟩, ⟨rfl, r, hn, Nat.le_refl _, Ext.refl _ _ _ _⟩, f, rfl⟩
  | cons o ops ih =>
    intro i X fr fp h nx K e r hn f hall hfr hlen hlenP
    simp only [List.length_cons] at hlen hlenP hfr
    have hfr0 := hfr i (Nat.le_refl _) (by omega)
    have w : Nw X nx (base + i) (baseP + i) := ⟨hfr0.1, by omega, hn, hfr0.2, by omega⟩
    -- behind the operation
    have go : ∀ {v : V} {p : PV} {h1 : H} {nx1 : Nat} {X1 : Cx} {fr1 : FrA} {fp1 : Pi.Fr}, putA fr1 o.dst v (fun fr => runOpsA P tab rec base all (Pi.idx (i + 1) ops) fr h1 nx1 K) = some x → RH X1 h1 nx1 → nx1 ≤ 1048575 → nx ≤ nx1 → FR X1 fr1 fp1 → fr1.nt = fr.nt → VR X1 v p → Ext b bP X h X1 h1 → FreshAt X1 base baseP (i + 1) ops.length →
        (∀ {rr : Pi.Ex × Pi.Fr × Hp}, (∃ N, ∀ F n, N ≤ F → N ≤ n → (match fp1.put o.dst p with
          | some fr => Pi.runOps P (shOf tab) (Pi.doN P (shOf tab) F n) baseP all (Pi.idx (i + 1) ops) fr X1.h
          | none => none) = some rr) → ∃ N, ∀ F n, N ≤ F → N ≤ n → Pi.runOps P (shOf tab) (Pi.doN P (shOf tab) F n) baseP all (Pi.idx i (o :: ops)) fp X.h = some rr) →
        ∃ ex fr' h' nx' Y exP fp' hP', K ex fr' h' nx' = some x ∧ (∃ N, ∀ F n, N ≤ F → N ≤ n → Pi.runOps P (shOf tab) (Pi.doN P (shOf tab) F n) baseP all (Pi.idx i (o :: ops)) fp X.h = some (exP, fp', hP')) ∧ Run b bP X h nx Y h' nx' hP' ∧ FR Y fr' fp' ∧ ExR Y ex exP := by
      intro v p h1 nx1 X1 fr1 fp1 e r1 hn1 hle f1 hnt hv hext hfr1 hP
      obtain ⟨fr2, fp2, e2, hput, f2⟩ := putA_ok f1 hv e
      have hnt2 : fr2.nt = fr.nt := by rw [← f2.nt, ← hnt, ← f1.nt]; unfold Pi.Fr.put at hput; split at hput
                                       · cases hput; rfl
                                       · have := bifY hput; cases this.2; rfl
      obtain ⟨ex, fr', h', nx', Y, exP, fp', hP', k1, k2, k3, k4, k5⟩ := ih e2 r1 hn1 f2 (fun o ho d hd => by rw [hnt2]; exact hall o ho d hd) hfr1 (by omega) (by have := hext.nx; omega)
      refine ⟨ex, fr', h', nx', Y, exP, fp', hP', k1, hP ?_, ⟨k3.hp, k3.rh, k3.big, Nat.le_trans hle k3.le, hext.trans k3.ext⟩, k4, k5⟩
      obtain ⟨N, hN⟩ := k2
      exact ⟨N, fun F n hF hn => by rw [hput]; exact hN F n hF hn⟩
    have idxc : Pi.idx i (o :: ops) = (i, o) :: Pi.idx (i + 1) ops := rfl
    rw [idxc] at e
    unfold runOpsA at e
    have fg := guardA_ok (nt := fr.nt) f.t f.big hall e
    obtain ⟨t', ht', hcase⟩ := fg
    have f' : FR X { fr with t := t' } fp := ⟨ht', f.nt, f.big, f.ds, f.up, f.ro⟩
    rcases hcase with ⟨e, hw⟩ | ⟨e, hw⟩
    · -- an operation
      have ev := evA_ok r w ht' e
      -- what the elder evaluator does with it
      have hP : ∀ F n, Pi.runOps P (shOf tab) (Pi.doN P (shOf tab) F n) baseP all (Pi.idx i (o :: ops)) fp X.h = (match Pi.evalOp P fp.t X.h (baseP + i) o with
        | some (.val v h) => match fp.put o.dst v with
          | some fr => Pi.runOps P (shOf tab) (Pi.doN P (shOf tab) F n) baseP all (Pi.idx (i + 1) ops) fr h
          | none => none
        | some (.skip h) => match fp.put o.dst (.tup []) with
          | some fr => Pi.runOps P (shOf tab) (Pi.doN P (shOf tab) F n) baseP all (Pi.idx (i + 1) ops) fr h
          | none => none
        | some (.dfr d) => match fp.ro with
          | none => (match ({ fp with ds := d :: fp.ds } : Pi.Fr).put o.dst (.tup []) with
            | some fr => Pi.runOps P (shOf tab) (Pi.doN P (shOf tab) F n) baseP all (Pi.idx (i + 1) ops) fr X.h
            | none => none)
          | some _ => none
        | some (.call f args) => match Pi.doCall (shOf tab) (Pi.doN P (shOf tab) F n) (baseP + i) f args X.h with
          | some (.ret v, h) => (match fp.put o.dst v with
            | some fr => Pi.runOps P (shOf tab) (Pi.doN P (shOf tab) F n) baseP all (Pi.idx (i + 1) ops) fr h
            | none => none)
          | some (.pan [{ v := e, recovered := false }], h) => some (.panic e, fp, h)
          | _ => none
        | some (.yield l args) => match Pi.doN P (shOf tab) F n (.yl l) none args X.h with
          | some (.ret v, _, h) => (match fp.put o.dst v with
            | some fr => Pi.runOps P (shOf tab) (Pi.doN P (shOf tab) F n) baseP all (Pi.idx (i + 1) ops) fr h
            | none => none)
          | _ => none
        | some (.pan v) => some (.panic v, fp, X.h)
        | some .rcv => match fp.ro with
          | some _ => none
          | none => match fp.up with
            | some (.pan ({ v, recovered := false } :: older)) => (match ({ fp with up := some (.pan ({ v, recovered := true } :: older)) } : Pi.Fr).put o.dst v with
              | some fr => Pi.runOps P (shOf tab) (Pi.doN P (shOf tab) F n) baseP all (Pi.idx (i + 1) ops) fr X.h
              | none => none)
            | _ => (match fp.put o.dst .nili with
              | some fr => Pi.runOps P (shOf tab) (Pi.doN P (shOf tab) F n) baseP all (Pi.idx (i + 1) ops) fr X.h
              | none => none)
        | none => none) := by
        intro F n
        rw [idxc, Pi.runOps, hw]; rfl
      generalize Pi.evalOp P fp.t X.h (baseP + i) o = op at ev hP
      have fresh1 : ∀ {Y : Cx} {h1 : H}, St X h (base + i) (baseP + i) Y h1 → FreshAt Y base baseP (i + 1) ops.length := fun s j h1 h2 => by
        obtain ⟨a1, a2⟩ := hfr j (by omega) (by omega)
        exact ⟨s.pin _ (by omega) a1, s.hpn _ (by omega) a2⟩
      cases ev with
      | val e ok hv =>
        obtain ⟨y1, y2, y3⟩ := ok
        refine go e y2 hn (Nat.le_refl _) (f'.mono y3.up) rfl hv (y3.ext (by omega) (by omega)) (fresh1 y3) ?_
        rintro rr ⟨N, hN⟩
        refine ⟨N, fun F n hF hn => ?_⟩
        rw [hP]
        simp only
        rw [← y1]; exact hN F n hF hn
      | skip e ok =>
        obtain ⟨y1, y2, y3⟩ := ok
        refine go e y2 hn (Nat.le_refl _) (f'.mono y3.up) rfl (p := .tup []) (by simp only [VR]; exact ⟨[], rfl, .nil⟩) (y3.ext (by omega) (by omega)) (fresh1 y3) ?_
        rintro rr ⟨N, hN⟩
        refine ⟨N, fun F n hF hn => ?_⟩
        rw [hP]
        simp only
        rw [← y1]; exact hN F n hF hn
      | dfr e hd =>
        dsimp only at e
        split at e
        · rename_i hro
          have hroP : fp.ro = none := by have := f.ro; rw [hro] at this; exact this
          refine go (fp1 := { fp with ds := _ :: fp.ds }) e r hn (Nat.le_refl _) ⟨ht', f.nt, f.big, .cons hd f.ds, f.up, f.ro⟩ rfl (p := .tup []) (by simp only [VR]; exact ⟨[], rfl, .nil⟩) (Ext.refl _ _ _ _) (fun j h1 h2 => hfr j (by omega) (by omega)) ?_
          rintro rr ⟨N, hN⟩
          refine ⟨N, fun F n hF hn => ?_⟩
          rw [hP]
          simp only [hroP]
          have := hN F n hF hn
          simp only [hroP] at this
          exact this
        · cases e
      | @call g as ps e ha =>
        dsimp only at e
        split at e
        · cases e
        · rename_i sg hsg
          obtain ⟨v, h1, q, hP1, Y, e1, ⟨N0, hN0⟩, ⟨y1, y2, y3⟩, hv⟩ := callT_ok T r w hsg ha e
          refine go e1 y2 hn (Nat.le_refl _) (f'.mono y3.up) rfl hv (y3.ext (by omega) (by omega)) (fresh1 y3) ?_
          rintro rr ⟨N, hN⟩
          refine ⟨max N0 N, fun F n hF hn => ?_⟩
          rw [hP]
          simp only [hN0 F n (by omega) (by omega)]
          rw [← y1]; exact hN F n (by omega) (by omega)
        · rename_i hsg
          obtain ⟨o', up', h1, nx1, Y, oP, upP', hP1, e1, ⟨N0, hN0⟩, run, ho, hu⟩ := R.fn e r hn ha (show UMR X none none from rfl)
          have hcall : ∀ F n, N0 ≤ F → N0 ≤ n → Pi.doCall (shOf tab) (Pi.doN P (shOf tab) F n) (baseP + i) g ps X.h = some (oP, hP1) := fun F n hF hn => by
            unfold Pi.doCall
            have hsh : shOf tab g = true := by unfold shOf; rw [hsg]; rfl
            simp only [hsh, cond_true, hN0 F n hF hn]
          have hup := run.ext.full r (Nat.le_refl _)
          have hext : Ext b bP X h Y h1 := run.ext.le (by omega) (by omega)
          have hfr1 : FreshAt Y base baseP (i + 1) ops.length := fun j h1 h2 => by
            obtain ⟨a1, a2⟩ := hfr j (by omega) (by omega)
            exact ⟨run.ext.pin _ (by omega) a1, run.ext.hpn _ (by omega) a2⟩
          cases o' with
          | ret v =>
            dsimp only at e1
            obtain ⟨p, rfl, hv⟩ := ho
            refine go e1 run.rh run.big run.le (f'.mono hup) rfl hv hext hfr1 ?_
            rintro rr ⟨N, hN⟩
            refine ⟨max N0 N, fun F n hF hn => ?_⟩
            rw [hP]
            simp only [hcall F n (by omega) (by omega)]
            rw [← run.hp]; exact hN F n (by omega) (by omega)
          | pan ch =>
            obtain ⟨c, rfl, hch⟩ := ho
            match ch, hch, e1 with
            | [{ v := v, recovered := false }], hch, e1 =>
              obtain ⟨⟨vP, rP⟩, c', rfl, ⟨h3, h4⟩, h5⟩ := L2.cons_inv hch
              rw [L2.nil_inv h5] at hcall
              simp only at h3 h4; subst h4
              refine ⟨_, _, h1, nx1, Y, .panic vP, fp, hP1, e1, ⟨N0, fun F n hF hn => ?_⟩, ⟨run.hp, run.rh, run.big, run.le, hext⟩, f'.mono hup, ⟨vP, rfl, h3⟩⟩
              rw [hP]
              simp only [hcall F n hF hn]
            | [], _, e1 => cases e1
            | [{ v := v, recovered := true }], _, e1 => cases e1
            | ⟨av, ar⟩ :: b :: c, _, e1 => cases ar <;> cases e1
      | @yield l lP m as ps e hl ha =>
        dsimp only at e
        obtain ⟨o', up', h1, nx1, Y, oP, upP', hP1, e1, ⟨N0, hN0⟩, run, ho, hu⟩ := R.yl e r hn hl ha
        have hup := run.ext.full r (Nat.le_refl _)
        have hext : Ext b bP X h Y h1 := run.ext.le (by omega) (by omega)
        have hfr1 : FreshAt Y base baseP (i + 1) ops.length := fun j h1 h2 => by
          obtain ⟨a1, a2⟩ := hfr j (by omega) (by omega)
          exact ⟨run.ext.pin _ (by omega) a1, run.ext.hpn _ (by omega) a2⟩
        cases o' with
        | ret v =>
          dsimp only at e1
          obtain ⟨p, rfl, hv⟩ := ho
          refine go e1 run.rh run.big run.le (f'.mono hup) rfl hv hext hfr1 ?_
          rintro rr ⟨N, hN⟩
          refine ⟨max N0 N, fun F n hF hn => ?_⟩
          rw [hP]
          simp only [hN0 F n (by omega) (by omega)]
          rw [← run.hp]; exact hN F n (by omega) (by omega)
        | pan ch => cases e1
      | pan e hv =>
        refine ⟨_, _, h, nx, X, .panic _, fp, X.h, e, ⟨0, fun F n _ _ => by rw [hP]⟩, ⟨rfl, r, hn, Nat.le_refl _, Ext.refl _ _ _ _⟩, f', ⟨_, rfl, hv⟩⟩
      | rcv e =>
        dsimp only at e
        split at e
        · cases e
        · rename_i hro
          have hroP : fp.ro = none := by have := f.ro; rw [hro] at this; exact this
          split at e
          · rename_i v older hup
            have hu := f.up
            rw [hup] at hu
            obtain ⟨c, hc, hch⟩ := hu
            obtain ⟨⟨vP, rP⟩, c', rfl, ⟨h3, h4⟩, h5⟩ := L2.cons_inv hch
            simp only at h3 h4; subst h4
            refine go (fp1 := { fp with up := some (.pan ({ v := vP, recovered := true } :: c')) }) e r hn (Nat.le_refl _) ⟨ht', f.nt, f.big, f.ds, ⟨_, rfl, .cons ⟨h3, rfl⟩ h5⟩, f.ro⟩ rfl h3 (Ext.refl _ _ _ _) (fun j h1 h2 => hfr j (by omega) (by omega)) ?_
            rintro rr ⟨N, hN⟩
            refine ⟨N, fun F n hF hn => ?_⟩
            rw [hP]
            simp only [hroP, hc]
            have := hN F n hF hn
            simp only [hroP] at this
            exact this
          · rename_i hne
            refine go e r hn (Nat.le_refl _) f' rfl (p := .nili) (by simp [VR]) (Ext.refl _ _ _ _) (fun j h1 h2 => hfr j (by omega) (by omega)) ?_
            rintro rr ⟨N, hN⟩
            refine ⟨N, fun F n hF hn => ?_⟩
            rw [hP]
            simp only [hroP]
            have := hN F n hF hn
            have hu := f.up
            cases hfu : fr.up with
            | none =>
              rw [hfu] at hu
              rw [show fp.up = none from hu]; exact this
            | some u =>
              rw [hfu] at hu
              cases u with
              | ret => rw [show fp.up = some .ret from hu]; exact this
              | pan ch =>
                obtain ⟨c, hc, hch⟩ := hu
                rw [hc]
                cases hch with
                | nil => exact this
                | cons a t =>
                  rename_i a1 b1 l1 m1
                  obtain ⟨bv, br⟩ := b1
                  cases br with
                  | true => exact this
                  | false =>
                    obtain ⟨av, ar⟩ := a1
                    have : ar = false := a.2
                    subst this
                    exact absurd hfu (hne _ _)
    · -- none
      refine go e r hn (Nat.le_refl _) f' rfl (p := .tup []) (by simp only [VR]; exact ⟨[], rfl, .nil⟩) (Ext.refl _ _ _ _) (fun j h1 h2 => hfr j (by omega) (by omega)) ?_
      rintro rr ⟨N, hN⟩
      refine ⟨N, fun F n hF hn => ?_⟩
      rw [idxc, Pi.runOps, hw]
      exact hN F n hF hn
end
end Go.Proofs.YtopoaknleakdcaaGreat.Sv
namespace Go.Proofs.YtopoaknleakdcaaGreat.Sv
open Go.Proofs.YtopoaknleakdcaaGreat.Pi (PV T Hp Blk DF UM PE lget_eq lset_eq mapPur pur purl)
/-! What code leaves of a frame. -/
structure Kp (W : List Nat) (a b : Pi.Fr) : Prop where
  t : ∀ k, k ∉ W → b.t.get k = a.t.get k
  nt : b.nt = a.nt
  ro : b.ro = a.ro
  up : a.up = none → b.up = none
  ds : ∃ p, b.ds = p ++ a.ds
theorem Kp.refl (W : List Nat) (a : Pi.Fr) : Kp W a a := ⟨fun _ _ => rfl, rfl, rfl, fun h => h, [], rfl⟩
theorem Kp.trans {W : List Nat} {a b c : Pi.Fr} (h : Kp W a b) (k : Kp W b c) : Kp W a c := by
  obtain ⟨p, hp⟩ := h.ds
  obtain ⟨q, hq⟩ := k.ds
  exact ⟨fun i hi => (k.t i hi).trans (h.t i hi), k.nt.trans h.nt, k.ro.trans h.ro, fun hu => k.up (h.up hu), q ++ p, by rw [hq, hp, List.append_assoc]⟩
theorem Kp.mono {W V : List Nat} (hw : ∀ k ∈ W, k ∈ V) {a b : Pi.Fr} (h : Kp W a b) : Kp V a b := ⟨fun k hk => h.t k fun hh => hk (hw k hh), h.nt, h.ro, h.up, h.ds⟩
theorem Kp.put {W : List Nat} {a b : Pi.Fr} (hnt : a.nt < 1048575) {d : Option Nat} (hd : ∀ i, d = some i → i ∈ W) {v : PV} (e : a.put d v = some b) : Kp W a b := by
  unfold Pi.Fr.put at e
  split at e
  · cases e; exact Kp.refl _ _
  · rename_i i
    replace e := bifY e; obtain ⟨hi, e⟩ := e
    cases e
    have hi' : i < a.nt := by simpa using hi
    have h20 : (2 : Nat) ^ 20 - 1 = 1048575 := by decide
    refine ⟨fun k hk => ?_, rfl, rfl, fun h => h, [], rfl⟩
    show (T.put 20 a.t i v).get k = _
    rw [T.get_put 20 a.t i v k (by omega), if_neg]
    intro hh; subst hh; exact hk (hd k rfl)
section
variable {P : Program} {sh : FuncId → Bool} {rec : Pi.Rec}
theorem runOps_kp {base : Nat} {all : List Oper} {W : List Nat} : ∀ {l : List (Nat × Oper)} {fr fr' : Pi.Fr} {h h' : Hp} {ex : Pi.Ex}, fr.nt < 1048575 → (∀ p ∈ l, ∀ i, p.2.dst = some i → i ∈ W) → Pi.runOps P sh rec base all l fr h = some (ex, fr', h') → Kp W fr fr'
  | [], fr, fr', h, h', ex, hnt, hW, e => by cases e; exact Kp.refl _ _
  | (i, o) :: l, fr, fr', h, h', ex, hnt, hW, e => by
    have hW' : ∀ p ∈ l, ∀ i, p.2.dst = some i → i ∈ W := fun p hp => hW p (by simp [hp])
    have ho : ∀ j, o.dst = some j → j ∈ W := hW (i, o) (by simp)
    have go : ∀ {a b : Pi.Fr} {v : PV} {hh : Hp}, Kp W fr a → a.put o.dst v = some b → Pi.runOps P sh rec base all l b hh = some (ex, fr', h') → Kp W fr fr' := fun ha hb e => by
      have hb' := Kp.put (W := W) (by rw [ha.nt]; exact hnt) ho hb
      exact (ha.trans hb').trans (runOps_kp (by rw [hb'.nt, ha.nt]; exact hnt) hW' e)
    unfold Pi.runOps at e
    replace e := bifT' e
    rcases e with ⟨_, e⟩ | ⟨_, e⟩
    · split at e
      · split at e
        · rename_i hp; exact go (Kp.refl _ _) hp e
        · cases e
      · split at e
        · rename_i hp; exact go (Kp.refl _ _) hp e
        · cases e
      · split at e
        · split at e
          · rename_i hp
            exact go (a := { fr with ds := _ :: fr.ds }) ⟨fun _ _ => rfl, rfl, rfl, fun h => h, [_], rfl⟩ hp e
          · cases e
        · cases e
      · split at e
        · split at e
          · rename_i hp; exact go (Kp.refl _ _) hp e
          · cases e
        · cases e; exact Kp.refl _ _
        · cases e
      · split at e
        · split at e
          · rename_i hp; exact go (Kp.refl _ _) hp e
          · cases e
        · cases e
      · cases e; exact Kp.refl _ _
      · split at e
        · cases e
        · split at e
          · rename_i hu
            split at e
            · rename_i hp
              exact go (a := { t := fr.t, nt := fr.nt, ds := fr.ds, up := some _, ro := fr.ro }) ⟨fun _ _ => rfl, rfl, rfl, fun h => (by rw [hu] at h; cases h), [], rfl⟩ hp e
            · cases e
          · split at e
            · rename_i hp; exact go (Kp.refl _ _) hp e
            · cases e
      · cases e
    · split at e
      · rename_i hp; exact go (Kp.refl _ _) hp e
      · cases e
theorem drawnGo_kp {base nt : Nat} {all : List Oper} {W : List Nat} (hnt : nt < 1048575) : ∀ {i : Nat} {ops : List Oper} {ms : List Pi.Mk} {past : List (Nat × List Nat × List Nat)} {t t' : T PV} {h h' : Hp}, (∀ o ∈ ops, ∀ i, o.dst = some i → i ∈ W) → Pi.drawnGo P rec base nt all i ops ms past t h = some (t', h') → ∀ k, k ∉ W → t'.get k = t.get k
  | i, [], ms, past, t, t', h, h', hW, e, k, hk => by
    have : (t, h) = (t', h') := by cases ms <;> simpa [Pi.drawnGo] using e
    cases this; rfl
  | i, o :: ops, [], past, t, t', h, h', hW, e, k, hk => by cases e
  | i, o :: ops, m :: ms, past, t, t', h, h', hW, e, k, hk => by
    have hW' : ∀ o ∈ ops, ∀ i, o.dst = some i → i ∈ W := fun p hp => hW p (by simp [hp])
    have h20 : (2 : Nat) ^ 20 - 1 = 1048575 := by decide
    have put : ∀ {d : Nat} {v : PV}, o.dst = some d → Nat.blt d nt = true → (T.put 20 t d v).get k = t.get k := fun hd hb => by
      have hb' := Nat.le_of_ble_eq_true hb
      rw [T.get_put 20 t _ _ k (by omega), if_neg]
      intro hh; subst hh; exact hk (hW o (by simp) _ hd)
    unfold Pi.drawnGo at e
    replace e := bifT' e
    rcases e with ⟨_, e⟩ | ⟨_, e⟩
    · split at e
      · replace e := bifY e; obtain ⟨_, e⟩ := e
        split at e
        · rename_i d hd
          replace e := bifY e; obtain ⟨hb, e⟩ := e
          rw [drawnGo_kp hnt hW' e k hk, put hd hb]
        · exact drawnGo_kp hnt hW' e k hk
      · cases e
    · split at e
      · rename_i d hd
        replace e := bifY e; obtain ⟨hb, e⟩ := e
        rw [drawnGo_kp hnt hW' e k hk, put hd hb]
      · exact drawnGo_kp hnt hW' e k hk
theorem mem_idx : ∀ {l : List Oper} {i : Nat} {p : Nat × Oper}, p ∈ Pi.idx i l → p.2 ∈ l
  | [], i, p, h => by cases h
  | o :: l, i, p, h => by
    rcases List.mem_cons.1 h with rfl | h
    · simp
    · exact List.mem_cons_of_mem _ (mem_idx h)
theorem exec_kp : ∀ {n : Nat} {c : Code} {fr fr' : Pi.Fr} {h h' : Hp} {ex : Pi.Ex}, fr.nt < 1048575 → Pi.exec P sh rec n c fr h = some (ex, fr', h') → Kp (writesC c) fr fr'
  | 0, _, _, _, _, _, _, _, e => by cases e
  | n + 1, c, fr, fr', h, h', ex, hnt, e => by
    cases c with
    | skip => cases e; exact Kp.refl _ _
    | label l => cases e; exact Kp.refl _ _
    | seq a b =>
      simp only [Pi.exec] at e
      split at e
      · rename_i fr1 h1 e1
        have k1 := exec_kp hnt e1
        have k2 := exec_kp (by rw [k1.nt]; exact hnt) e
        exact (k1.mono fun k hk => List.mem_append_left _ hk).trans (k2.mono fun k hk => List.mem_append_right _ hk)
      · exact (exec_kp hnt e).mono fun k hk => List.mem_append_left _ hk
    | cond c a b =>
      simp only [Pi.exec] at e
      split at e
      · exact (exec_kp hnt e).mono fun k hk => List.mem_append_left _ hk
      · exact (exec_kp hnt e).mono fun k hk => List.mem_append_right _ hk
      · cases e
    | block id b =>
      simp only [Pi.exec] at e
      split at e
      · rename_i j fr1 h1 e1
        have k1 := exec_kp hnt e1
        replace e := bifT' e
        rcases e with ⟨_, e⟩ | ⟨_, e⟩ <;> (cases e; exact k1)
      · exact exec_kp (c := b) hnt e
    | loop b =>
      simp only [Pi.exec] at e
      split at e
      · rename_i fr1 h1 e1
        have k1 := exec_kp hnt e1
        exact k1.trans (exec_kp (c := .loop b) (by rw [k1.nt]; exact hnt) e)
      · exact exec_kp (c := b) hnt e
    | scope b =>
      simp only [Pi.exec] at e
      split at e
      · cases e
      · exact exec_kp (c := b) hnt e
    | exit id => cases e; exact Kp.refl _ _
    | goto l => cases e; exact Kp.refl _ _
    | ret => cases e; exact Kp.refl _ _
    | refuse w => cases e
    | region id ops draw =>
      simp only [Pi.exec] at e
      have hW : ∀ o ∈ ops.toList, ∀ i, o.dst = some i → i ∈ writesC (.region id ops draw) := fun o ho i hi => List.mem_filterMap.2 ⟨o, ho, hi⟩
      replace e := bifT' e
      rcases e with ⟨_, e⟩ | ⟨_, e⟩
      · replace e := bifY e; obtain ⟨_, e⟩ := e
        split at e
        · rename_i fr1 h1 e1
          cases e
          unfold Pi.drawn at e1
          split at e1
          · split at e1
            · rename_i t1 h1 e2
              cases e1
              exact ⟨drawnGo_kp hnt hW e2, rfl, rfl, fun h => h, [], rfl⟩
            · cases e1
          · cases e1
        · cases e
      · exact runOps_kp hnt (fun p hp i hi => hW p.2 (mem_idx hp) i hi) e
    | rangeFunc g ps asg body =>
      simp only [Pi.exec] at e
      have fin : ∀ {m : List DF}, Kp (writesC (.rangeFunc g ps asg body)) fr { fr with ds := m ++ fr.ds } := fun {m} => ⟨fun _ _ => rfl, rfl, rfl, fun h => h, m, rfl⟩
      split at e
      · split at e
        · split at e
          · split at e
            · split at e
              · split at e
                · replace e := bifN e; obtain ⟨_, e⟩ := e
                  split at e
                  · split at e <;> first | (cases e; exact fin) | cases e
                  · cases e
                · cases e
              · cases e
            · cases e
          · cases e
        · cases e
      · cases e
end
end Go.Proofs.YtopoaknleakdcaaGreat.Sv
namespace Go.Proofs.YtopoaknleakdcaaGreat.Sv
open Go.Proofs.YtopoaknleakdcaaGreat.Pi (PV T Hp Blk DF UM PE lget_eq lset_eq mapPur pur purl)
/-! Names below a bound. -/
section
variable {X Y : Cx} {b : Nat}
mutual
theorem VR.lowOf : ∀ {v : V} {p q : PV}, VR (X.low b) v p → VR Y v q → VR (Y.low b) v q
  | .bool _, _, _, _, h | .int _ _, _, _, _, h | .str _, _, _, _, h | .nilp, _, _, _, h | .nils, _, _, _, h | .nilm, _, _, _, h | .nilf, _, _, _, h | .nili, _, _, _, h => by
    simp only [VR] at h ⊢; exact h
  | .agg cs, _, _, k, h => by
    simp only [VR] at h k ⊢
    obtain ⟨ps, h1, h2⟩ := h
    obtain ⟨qs, k1, k2⟩ := k
    exact ⟨ps, h1, VRL.lowOf k2 h2⟩
  | .tup cs, _, _, k, h => by
    simp only [VR] at h k ⊢
    obtain ⟨ps, h1, h2⟩ := h
    obtain ⟨qs, k1, k2⟩ := k
    exact ⟨ps, h1, VRL.lowOf k2 h2⟩
  | .lf full g c l, _, _, _, h => by
    simp only [VR] at h ⊢
    exact h
  | .exl full es, _, _, _, h => by simp only [VR] at h ⊢; exact h
  | .ow id, p, q, k, h => by
    simp only [VR] at h k ⊢
    by_cases hb : id < b
    · rw [Cx.low_eq hb]; exact h
    · rw [Cx.low_ge hb] at k; exact k.elim
  | .own id off len, _, _, k, h => by
    simp only [VR] at h k ⊢
    obtain ⟨pid, n, h1, h2⟩ := h
    obtain ⟨_, _, k1, _⟩ := k
    by_cases hb : id < b
    · exact ⟨pid, n, by rw [Cx.low_eq hb]; exact h1, h2⟩
    · rw [Cx.low_ge hb] at k1; cases k1
  | .ptr id off, _, _, k, h => by
    simp only [VR] at h k ⊢
    obtain ⟨pid, n, h1, h2⟩ := h
    obtain ⟨_, _, k1, _⟩ := k
    by_cases hb : id < b
    · exact ⟨pid, n, by rw [Cx.low_eq hb]; exact h1, h2⟩
    · rw [Cx.low_ge hb] at k1; cases k1
  | .ept id i off, _, _, k, h => by
    simp only [VR] at h k ⊢
    obtain ⟨pid, n, h1, h2⟩ := h
    obtain ⟨_, _, k1, _⟩ := k
    by_cases hb : id < b
    · exact ⟨pid, n, by rw [Cx.low_eq hb]; exact h1, h2⟩
    · rw [Cx.low_ge hb] at k1; cases k1
  | .view cs, _, _, k, h => by
    simp only [VR] at h k ⊢
    rcases h with h | ⟨pid, i, off, es, ex, fz, e, h1, h2, h3, h4, h5⟩
    · exact .inl h
    · refine .inr ⟨pid, i, off, es, ex, fz, e, h1, h2, h3, h4, ?_⟩
      rcases k with ⟨ps, k1, k2⟩ | ⟨_, _, _, _, _, _, _, _, _, _, _, k5⟩
      · exact VRL.lowOf (k2.mono (Up.pure _)) h5
      · exact VRL.lowOf k5 h5
  | .fn f a c, _, _, k, h => by
    simp only [VR] at h k ⊢
    obtain ⟨a', b', h1, h2, h3⟩ := h
    obtain ⟨a'', b'', k1, k2, k3⟩ := k
    exact ⟨a', b', h1, VRL.lowOf k2 h2, VRL.lowOf k3 h3⟩
  | .yl id, _, _, k, h => by
    simp only [VR] at h k ⊢
    obtain ⟨pid, n, h1, h2⟩ := h
    obtain ⟨_, _, k1, _⟩ := k
    by_cases hb : id < b
    · exact ⟨pid, n, by rw [Cx.low_eq hb]; exact h1, h2⟩
    · rw [Cx.low_ge hb] at k1; cases k1
  | .ifc t v, _, _, k, h => by
    simp only [VR] at h k ⊢
    obtain ⟨q, h1, h2⟩ := h
    obtain ⟨q', k1, k2⟩ := k
    exact ⟨q, h1, VR.lowOf k2 h2⟩
  | .mp id, _, _, k, h => by
    simp only [VR] at h k ⊢
    obtain ⟨pid, n, h1, h2⟩ := h
    obtain ⟨_, _, k1, _⟩ := k
    by_cases hb : id < b
    · exact ⟨pid, n, by rw [Cx.low_eq hb]; exact h1, h2⟩
    · rw [Cx.low_ge hb] at k1; cases k1
theorem VRL.lowOf : ∀ {vs : List V} {ps qs : List PV}, VRL (X.low b) vs ps → VRL Y vs qs → VRL (Y.low b) vs qs
  | [], _, _, _, h => by simp only [VRL] at h ⊢; exact h
  | v :: vs, _, _, k, h => by
    obtain ⟨p, ps, rfl, h1, h2⟩ := h.cons_inv
    obtain ⟨q, qs, rfl, k1, k2⟩ := k.cons_inv
    exact .cons (VR.lowOf k1 h1) (VRL.lowOf k2 h2)
end
end
/-- a kept heap: its blocks, their names below n -/
structure KH (X : Cx) (h0 : H) (n : Nat) : Prop where
  blk : ∀ i c, h0.get i = some c → i < n ∧ c.live ∧ BR (X.low n) c (X.π i)
  inj : ∀ i i' c c' p m m', h0.get i = some c → h0.get i' = some c' → X.π i = some (.blk p m) → X.π i' = some (.blk p m') → i = i'
theorem keepT_get {t : T V} : ∀ {l : List Nat} {k : Nat} {v : V}, (∀ i ∈ l, i < 1048575) → (keepT t l).get k = some v → k ∈ l ∧ t.get k = some v
  | [], k, v, _, e => by cases e
  | i :: l, k, v, hl, e => by
    have h20 : (2 : Nat) ^ 20 - 1 = 1048575 := by decide
    have hi := hl i (by simp)
    have ih : (keepT t l).get k = some v → k ∈ i :: l ∧ t.get k = some v := fun e => by
      obtain ⟨h1, h2⟩ := keepT_get (fun j hj => hl j (by simp [hj])) e
      exact ⟨by simp [h1], h2⟩
    unfold keepT at e
    split at e
    · rename_i w hw
      rw [T.get_put 20 _ _ _ _ (by omega)] at e
      by_cases hk : k = i
      · rw [if_pos hk] at e; cases e; subst hk; exact ⟨by simp, hw⟩
      · rw [if_neg hk] at e; exact ih e
    · exact ih e
theorem keepH_get {h : H} {f : BA → BA} : ∀ {l : List Nat} {k : Nat} {c : BA}, (∀ i ∈ l, i < 1048575) → (keepH h f l).get k = some c → k ∈ l ∧ ∃ d, h.get k = some d ∧ c = f d ∧ d.live
  | [], k, v, _, e => by cases e
  | i :: l, k, c, hl, e => by
    have h20 : (2 : Nat) ^ 20 - 1 = 1048575 := by decide
    have hi := hl i (by simp)
    have ih : (keepH h f l).get k = some c → k ∈ i :: l ∧ ∃ d, h.get k = some d ∧ c = f d ∧ d.live := fun e => by
      obtain ⟨h1, h2⟩ := keepH_get (fun j hj => hl j (by simp [hj])) e
      exact ⟨by simp [h1], h2⟩
    unfold keepH at e
    split at e
    · exact ih e
    · rename_i w hne hw
      rw [T.get_put 20 _ _ _ _ (by omega)] at e
      by_cases hk : k = i
      · rw [if_pos hk] at e; cases e; subst hk
        exact ⟨by simp, w, hw, rfl, by cases w <;> first | exact absurd rfl hne | trivial⟩
      · rw [if_neg hk] at e; exact ih e
    · exact ih e
/-- the world behind the laying of places: rows have names from n on -/
structure Lay (X Y : Cx) (n : Nat) (h1 : H) (n1 : Nat) : Prop where
  h : Y.h = X.h
  o : Y.O = X.O
  pi : ∀ i, i < n → Y.π i = X.π i
  none : ∀ i, n1 ≤ i → Y.π i = none
  le : n ≤ n1
theorem Lay.up {X Y : Cx} {n n1 : Nat} {h1 : H} (l : Lay X Y n h1 n1) : Up (X.low n) Y := by
  refine ⟨fun i a hi => ?_, ?_⟩
  · by_cases hb : i < n
    · rw [Cx.low_eq hb] at hi; rw [l.pi i hb]; exact hi
    · rw [Cx.low_ge hb] at hi; cases hi
  · show Rows X.h Y.h _ _
    rw [l.h]
    intro pid es ex fz h k
    exact ⟨⟨fz, k⟩, fun hO => h (l.o ▸ hO)⟩
end Go.Proofs.YtopoaknleakdcaaGreat.Sv
namespace Go.Proofs.YtopoaknleakdcaaGreat.Sv
open Go.Proofs.YtopoaknleakdcaaGreat.Pi (PV T Hp Blk DF UM PE lget_eq lset_eq mapPur pur purl)
theorem BR.live_blk {X : Cx} {c : BA} {a : Option At} (h : BR X c a) (hl : c.live) : ∃ t, a = some t := by
  cases c with
  | box => obtain ⟨_, _, _, _, h, _⟩ := h; exact ⟨_, h⟩
  | row => rcases h with ⟨_, _, _, _, h, _⟩ | ⟨h, _⟩ | ⟨_, h, _⟩ <;> exact ⟨_, h⟩
  | mp => obtain ⟨_, _, _, h, _⟩ := h; exact ⟨_, h⟩
  | lp => obtain ⟨_, _, _, _, _, h, _⟩ := h; exact ⟨_, h⟩
  | df => obtain ⟨_, _, _, h, _⟩ := h; exact ⟨_, h⟩
  | dead => exact hl.elim
/-- places laid so far -/
structure LInv (X : Cx) (h : H) (nx0 : Nat) (Y : Cx) (S : List Nat) (hc : H) (nc : Nat) : Prop where
  hh : Y.h = X.h
  oo : Y.O = X.O
  lo : ∀ i, i < nx0 → Y.π i = X.π i
  hi : ∀ i, nc ≤ i → Y.π i = none
  le : nx0 ≤ nc
  blk : ∀ i c, hc.get i = some c → BR Y c (Y.π i) ∧ i < nc
  inj : ∀ i i' c c' p m m', hc.get i = some c → hc.get i' = some c' → Y.π i = some (.blk p m) → Y.π i' = some (.blk p m') → i = i'
  src : ∀ i c p m, hc.get i = some c → Y.π i = some (.blk p m) → ∃ j ∈ S, ∃ d m', h.get j = some d ∧ d.live ∧ X.π j = some (.blk p m')
section
variable {X Y : Cx} {h hc : H} {n nx0 nc : Nat} {S : List Nat} {β : Type} {x : β}
theorem same_cx {Y Z : Cx} (h : Y.h = X.h) (o : Y.O = X.O) (h' : Z.h = X.h) (o' : Z.O = X.O) (p : ∀ i a, Y.π i = some a → Z.π i = some a) : Up Y Z := by
  refine ⟨p, ?_⟩
  show Rows Y.h Z.h _ _
  rw [h, h']
  intro pid es ex fz k1 k2
  exact ⟨⟨fz, k2⟩, fun hO => k1 (by rw [o]; rw [o'] at hO; exact hO)⟩
theorem LInv.row (L : LInv X h nx0 Y S hc nc) (r : RH X h n) (hnc : nc < 1048575) {g : Bool} {c : Ty} {l : List c.den} {ex : Bool} {a : At}
    (ha : (a = .nil ∧ l = [] ∧ ex = false) ∨ ∃ j, j ∉ S ∧ h.get j = some (.row g c l ex false false) ∧ X.π j = some a) {J : List Nat} (hJ : ∀ j, h.get j = some (.row g c l ex false false) → X.π j = some a → j ∉ S → a ≠ .nil → j ∈ J) :
    ∃ Z : Cx, Z.π nc = some a ∧ Up Y Z ∧ LInv X h nx0 Z (J ++ S) (hput hc nc (.row g c l ex false false)) (nc + 1) := by
  let Z : Cx := { π := Sv.upd Y.π nc (some a), h := Y.h, O := Y.O }
  have hp : ∀ i, i ≠ nc → Z.π i = Y.π i := fun i hi => if_neg hi
  have hp0 : Z.π nc = some a := if_pos rfl
  have u : Up Y Z := same_cx (X := Y) rfl rfl rfl rfl fun i b hi => by
    rw [hp i (by intro hh; subst hh; rw [L.hi _ (Nat.le_refl _)] at hi; cases hi)]; exact hi
  have hbr : BR Z (.row g c l ex false false) (some a) := by
    rcases ha with ⟨h1, h2, h3⟩ | ⟨j, _, h2, h3⟩
    · subst h1; subst h2; subst h3; exact .inr (.inl ⟨rfl, rfl, rfl⟩)
    · have := r.blk _ _ h2
      rw [h3] at this
      have u0 : Rows X.h Z.h X.Q Z.Q := by
        show Rows X.h Y.h X.Q _
        rw [L.hh]
        intro pid es ex fz k1 k2
        exact ⟨⟨fz, k2⟩, fun hO => k1 (by rw [← L.oo]; exact hO)⟩
      rcases this with ⟨pid, len, es, fz', p1, p2, p3, p4, p5, p7, p6⟩ | q | q
      · exact .inl ⟨pid, len, es, fz', p1, by show Y.O pid; rw [L.oo]; exact p2, by show Y.h.get pid = _; rw [L.hh]; exact p3, p4, p5, p7, p6.mono fun _ _ k => k.mono fun _ _ k => DR.mono u0 k⟩
      · exact .inr (.inl q)
      · exact .inr (.inr q)
  -- where the block comes from
  have hsrc : ∀ p m, a = .blk p m → ∃ j, j ∉ S ∧ j ∈ J ∧ ∃ d m', h.get j = some d ∧ d.live ∧ X.π j = some (.blk p m') := fun p m he => by
    rcases ha with ⟨h1, _⟩ | ⟨j, h1, h2, h3⟩
    · rw [he] at h1; cases h1
    · exact ⟨j, h1, hJ j h2 h3 h1 (by rw [he]; simp), _, m, h2, trivial, he ▸ h3⟩
  refine ⟨Z, hp0, u, L.hh, L.oo, fun i hi => by rw [hp i (by have := L.le; omega)]; exact L.lo i hi, fun i hi => by rw [hp i (by omega)]; exact L.hi i (by omega), by have := L.le; omega, fun i c' hi => ?_, fun i i' c1 c2 p m m' hi hi' a1 a2 => ?_, fun i c' p m hi a1 => ?_⟩
  · rw [hput_get hnc] at hi
    by_cases hii : i = nc
    · rw [if_pos hii] at hi; cases hi; subst hii; rw [hp0]; exact ⟨hbr, by omega⟩
    · rw [if_neg hii] at hi
      obtain ⟨b1, b2⟩ := L.blk i c' hi
      rw [hp i hii]
      exact ⟨b1.keep u fun pid m _ hO => ⟨rfl, hO⟩, by omega⟩
  · rw [hput_get hnc] at hi hi'
    have clash : ∀ {i : Nat} {c1 : BA} {m1 m2 : Nat}, i ≠ nc → hc.get i = some c1 → Y.π i = some (.blk p m1) → a = .blk p m2 → False := fun hii hg hy he => by
      obtain ⟨j, j1, _, d, m3, j2, j3, j4⟩ := hsrc p _ he
      obtain ⟨j', k1, d', m4, k2, k3, k4⟩ := L.src _ _ _ _ hg hy
      have := r.inj _ _ _ _ _ _ _ j2 k2 j3 k3 j4 k4
      subst this; exact j1 k1
    by_cases h1 : i = nc
    · by_cases h2 : i' = nc
      · rw [h1, h2]
      · rw [if_neg h2] at hi'
        rw [h1, hp0] at a1; rw [hp i' h2] at a2
        exact (clash h2 hi' a2 (Option.some.inj a1)).elim
    · rw [if_neg h1] at hi
      by_cases h2 : i' = nc
      · rw [h2, hp0] at a2; rw [hp i h1] at a1
        exact (clash h1 hi a1 (Option.some.inj a2)).elim
      · rw [if_neg h2] at hi'
        rw [hp i h1] at a1; rw [hp i' h2] at a2
        exact L.inj _ _ _ _ _ _ _ hi hi' a1 a2
  · rw [hput_get hnc] at hi
    by_cases hii : i = nc
    · rw [hii, hp0] at a1
      obtain ⟨j, _, j1, d, m', j2, j3, j4⟩ := hsrc p m (Option.some.inj a1)
      exact ⟨j, List.mem_append_left _ j1, d, m', j2, j3, j4⟩
    · rw [if_neg hii] at hi
      rw [hp i hii] at a1
      obtain ⟨j, j1, d, m', j2, j3, j4⟩ := L.src i c' p m hi a1
      exact ⟨j, List.mem_append_right _ j1, d, m', j2, j3, j4⟩
theorem LInv.put (L : LInv X h nx0 Y S hc nc) (r : RH X h n) {i : Nat} (hi0 : i < nx0) (hib : i < 1048575) {c d : BA} (hd : h.get i = some d) (hl : d.live) (hS : i ∉ S) (hb : BR Y c (X.π i)) :
    LInv X h nx0 Y (i :: S) (hput hc i c) nc := by
  obtain ⟨t, ht⟩ := (r.blk _ _ hd).live_blk hl
  have hy : Y.π i = X.π i := L.lo i hi0
  have clash : ∀ {k : Nat} {c1 : BA} {p m1 m2 : Nat}, hc.get k = some c1 → Y.π k = some (.blk p m1) → X.π i = some (.blk p m2) → False := fun hg hyk he => by
    obtain ⟨j', k1, d', m4, k2, k3, k4⟩ := L.src _ _ _ _ hg hyk
    have := r.inj _ _ _ _ _ _ _ hd k2 hl k3 he k4
    subst this; exact hS k1
  refine ⟨L.hh, L.oo, L.lo, L.hi, L.le, fun k c' hk => ?_, fun k k' c1 c2 p m m' hk hk' a1 a2 => ?_, fun k c' p m hk a1 => ?_⟩
  · rw [hput_get hib] at hk
    by_cases hki : k = i
    · rw [if_pos hki] at hk; cases hk; subst hki; rw [hy]; exact ⟨hb, by have := L.le; omega⟩
    · rw [if_neg hki] at hk; exact L.blk k c' hk
  · rw [hput_get hib] at hk hk'
    by_cases h1 : k = i
    · by_cases h2 : k' = i
      · rw [h1, h2]
      · rw [if_neg h2] at hk'
        rw [h1, hy] at a1
        exact (clash hk' a2 a1).elim
    · rw [if_neg h1] at hk
      by_cases h2 : k' = i
      · rw [h2, hy] at a2
        exact (clash hk a1 a2).elim
      · rw [if_neg h2] at hk'
        exact L.inj _ _ _ _ _ _ _ hk hk' a1 a2
  · rw [hput_get hib] at hk
    by_cases hki : k = i
    · rw [hki, hy] at a1; exact ⟨i, by simp, d, m, hd, hl, a1⟩
    · rw [if_neg hki] at hk
      obtain ⟨j, j1, rest⟩ := L.src k c' p m hk a1
      exact ⟨j, by simp [j1], rest⟩
/-- an own row at a place -/
theorem rowOf_ok (r : RH X h n) {g : Bool} {c : Ty} {ex : Bool} {v : V} {p : PV} {K : List c.den → Option β} (hv : VR X v p) (e : rowOf h g c ex v K = some x) :
    ∃ l a, K l = some x ∧ ((a = .nil ∧ l = [] ∧ ex = false ∧ rowIdV v = []) ∨ ∃ j, rowIdV v = [j] ∧ h.get j = some (.row g c l ex false false) ∧ X.π j = some a) ∧ ∀ (Z : Cx) (i : Nat), Z.π i = some a → VR Z (.ow i) p := by
  unfold rowOf at e
  split at e
  · replace e := bifN e; obtain ⟨hx, e⟩ := e
    subst hx
    simp only [VR] at hv; subst hv
    exact ⟨[], .nil, e, .inl ⟨rfl, rfl, rfl, rfl⟩, fun Z i hz => by simp only [VR, hz]⟩
  · rename_i id
    split at e
    · rename_i g' c' l ex' hg
      replace e := bifY e; obtain ⟨hb, e⟩ := e
      simp only [Bool.and_eq_true] at hb
      have := eq_of_beq hb.1; subst this
      have := eq_of_beq hb.2; subst this
      replace e := castK_some e; obtain ⟨hc, e⟩ := e
      subst hc
      simp only [VR] at hv
      cases hp : X.π id with
      | none => rw [hp] at hv; exact hv.elim
      | some a =>
        rw [hp] at hv
        refine ⟨l, a, e, .inr ⟨id, rfl, hg, hp⟩, fun Z i hz => ?_⟩
        simp only [VR, hz]; exact hv
    · cases e
  · cases e
theorem LInv.dr (L : LInv X h nx0 Y S hc nc) {c : Ty} {y : c.den} {ps : List PV} (d : DR X.h X.Q c y ps) : DR Y.h Y.Q c y ps := by
  have hq : Y.Q = X.Q := by unfold Cx.Q; rw [L.oo]
  rw [L.hh, hq]; exact d
theorem decC_drop {c : Ty} {vs : List V} {ps : List PV} {K : c.den → List V → Option β} (hv : VRL X vs ps) (e : decC .lf c vs K = some x) :
    ∃ y p q, K y (vs.drop c.wd) = some x ∧ ps = p ++ q ∧ DR X.h X.Q c y p ∧ VRL X (vs.drop c.wd) q := by
  obtain ⟨y, r, p, q, h1, h2, h3, h4, s, h5⟩ := decC_ok (Q := X.Q) (fun _ _ _ h => (by cases h)) (fun _ _ _ _ _ h => (by cases h)) (fun _ h => h) hv e
  have hr : vs.drop c.wd = r := by
    have l1 := hv.length
    have l2 := h4.length
    have l3 := h3.same.wd
    subst h5; subst h2
    simp only [List.length_append] at l1
    rw [List.drop_append_of_le_length (by omega), List.drop_of_length_le (by omega), List.nil_append]
  rw [hr]
  exact ⟨y, p, q, h1, h2, h3.same, h4⟩
/-- what the laying of a part of the places comes to -/
def LOk (X : Cx) (h : H) (nx0 : Nat) (src : List Nat) (f : H → Nat → H × Nat) (R : Cx → H → Nat → Prop) : Prop :=
  ∀ {Y : Cx} {S : List Nat} {hc : H} {nc : Nat}, LInv X h nx0 Y S hc nc → (src ++ S).Nodup → (f hc nc).2 ≤ 1048575 →
      ∃ Z, Up Y Z ∧ LInv X h nx0 Z (src ++ S) (f hc nc).1 (f hc nc).2 ∧ R Z hc nc
theorem LInv.perm (L : LInv X h nx0 Y S hc nc) {S' : List Nat} (hs : ∀ j, j ∈ S ↔ j ∈ S') : LInv X h nx0 Y S' hc nc :=
  ⟨L.hh, L.oo, L.lo, L.hi, L.le, L.blk, L.inj, fun i c p m h1 h2 => by obtain ⟨j, j1, r⟩ := L.src i c p m h1 h2; exact ⟨j, (hs j).1 j1, r⟩⟩
theorem laySg_mono : ∀ (sg : List Sgm) (hc : H) (nc : Nat) (s : sgDen sg), nc ≤ (laySg hc nc sg s).2.2
  | [], hc, nc, s => Nat.le_refl _
  | [.lf c], hc, nc, s => Nat.le_refl _
  | [.ow g c ex], hc, nc, s => Nat.le_succ _
  | .lf c :: q :: r, hc, nc, s => laySg_mono (q :: r) hc nc s.2
  | .ow g c ex :: q :: r, hc, nc, s => Nat.le_trans (Nat.le_succ _) (laySg_mono (q :: r) _ (nc + 1) s.2)
theorem laySg_ok (r : RH X h n) : ∀ {sg : List Sgm} {cs : List V} {ps : List PV} {K : sgDen sg → Option β}, VRL X cs ps → decSg h sg cs K = some x →
    ∃ s, K s = some x ∧ ∀ {Y : Cx} {S : List Nat} {hc : H} {nc : Nat}, LInv X h nx0 Y S hc nc → (sgRows sg cs ++ S).Nodup → (laySg hc nc sg s).2.2 ≤ 1048575 →
      ∃ Z, Up Y Z ∧ LInv X h nx0 Z (sgRows sg cs ++ S) (laySg hc nc sg s).2.1 (laySg hc nc sg s).2.2 ∧ VRL Z (laySg hc nc sg s).1 ps
  | [], cs, ps, K, hv, e => by
    unfold decSg at e
    split at e
    · exact ⟨(), e, fun L _ _ => ⟨_, Up.refl _, L, by rw [hv.nil_inv]; exact .nil⟩⟩
    · cases e
  | [.lf c], cs, ps, K, hv, e => by
    unfold decSg at e
    obtain ⟨y, p, q, e, rfl, d, hr⟩ := decC_drop hv e
    split at e
    · rename_i hnil
      rw [hnil] at hr
      refine ⟨y, e, fun {Y S hc nc} L _ _ => ⟨Y, Up.refl _, L, ?_⟩⟩
      rw [hr.nil_inv, List.append_nil]
      exact cells_ok (L.dr d)
    · cases e
  | [.ow g c ex], cs, ps, K, hv, e => by
    unfold decSg at e
    split at e
    · rename_i v
      obtain ⟨p, qs, rfl, h1, h2⟩ := hv.cons_inv
      obtain ⟨l, a, e1, ha, hz⟩ := rowOf_ok r h1 e
      refine ⟨l, e1, fun {Y S hc nc} L hN hb => ?_⟩
      have hsr : sgRows [.ow g c ex] [v] = rowIdV v := by simp [sgRows]
      rw [hsr] at hN ⊢
      have hb' : nc + 1 ≤ 1048575 := hb
      obtain ⟨Z, z1, z2, z3⟩ := L.row r (g := g) (c := c) (l := l) (ex := ex) (a := a) (J := rowIdV v) (by omega) (by
        rcases ha with ⟨h1, h2, h3, _⟩ | ⟨j, h1, h2, h3⟩
        · exact .inl ⟨h1, h2, h3⟩
        · refine .inr ⟨j, ?_, h2, h3⟩
          rw [h1] at hN
          exact (List.nodup_cons.1 hN).1) (fun j h1 h2 h3 h4 => by
        rcases ha with ⟨k1, _⟩ | ⟨j', k1, k2, k3⟩
        · exact absurd k1 h4
        · rw [k1]
          cases a with
          | blk p m =>
            have := r.inj _ _ _ _ _ _ _ h1 k2 trivial trivial h2 k3
            simp [this]
          | nil => exact absurd rfl h4
          | fz es =>
            have := r.blk _ _ h1
            rw [h2] at this
            rcases this with ⟨_, _, _, _, q, _⟩ | ⟨q, _⟩ | ⟨_, q, _, q2, _⟩
            · cases q
            · cases q
            · cases q2)
      exact ⟨Z, z2, z3, .cons (hz Z nc z1) (by rw [h2.nil_inv]; exact .nil)⟩
    · cases e
  | .lf c :: q0 :: rr, cs, ps, K, hv, e => by
    unfold decSg at e
    obtain ⟨y, p, q, e, rfl, d, hr⟩ := decC_drop hv e
    obtain ⟨s, e1, hs⟩ := laySg_ok r (sg := q0 :: rr) hr e
    refine ⟨(y, s), e1, fun {Y S hc nc} L hN hb => ?_⟩
    obtain ⟨Z, z1, z2, z3⟩ := hs L hN hb
    exact ⟨Z, z1, z2, (cells_ok (z2.dr d)).append z3⟩
  | .ow g c ex :: q0 :: rr, cs, ps, K, hv, e => by
    unfold decSg at e
    split at e
    · rename_i v cs'
      obtain ⟨p, qs, rfl, h1, h2⟩ := hv.cons_inv
      obtain ⟨l, a, e1, ha, hz⟩ := rowOf_ok r h1 e
      obtain ⟨s, e2, hs⟩ := laySg_ok r (sg := q0 :: rr) h2 e1
      refine ⟨(l, s), e2, fun {Y S hc nc} L hN hb => ?_⟩
      have hsr : sgRows (.ow g c ex :: q0 :: rr) (v :: cs') = rowIdV v ++ sgRows (q0 :: rr) cs' := by simp [sgRows]
      rw [hsr] at hN ⊢
      have hb' : (laySg (hput hc nc (.row g c l ex false false)) (nc + 1) (q0 :: rr) s).2.2 ≤ 1048575 := hb
      have hmono : nc + 1 ≤ 1048575 := Nat.le_trans (laySg_mono (q0 :: rr) _ (nc + 1) s) hb'
      rw [List.append_assoc] at hN
      obtain ⟨Z, z1, z2, z3⟩ := L.row r (g := g) (c := c) (l := l) (ex := ex) (a := a) (J := rowIdV v) (by omega) (by
        rcases ha with ⟨h1, h2, h3, _⟩ | ⟨j, h1, h2, h3⟩
        · exact .inl ⟨h1, h2, h3⟩
        · refine .inr ⟨j, ?_, h2, h3⟩
          rw [h1] at hN
          exact fun hj => (List.nodup_cons.1 hN).1 (by simp [hj])) (fun j h1 h2 h3 h4 => by
        rcases ha with ⟨k1, _⟩ | ⟨j', k1, k2, k3⟩
        · exact absurd k1 h4
        · rw [k1]
          cases a with
          | blk p m =>
            have := r.inj _ _ _ _ _ _ _ h1 k2 trivial trivial h2 k3
            simp [this]
          | nil => exact absurd rfl h4
          | fz es =>
            have := r.blk _ _ h1
            rw [h2] at this
            rcases this with ⟨_, _, _, _, q, _⟩ | ⟨q, _⟩ | ⟨_, q, _, q2, _⟩
            · cases q
            · cases q
            · cases q2)
      have hN2 : (sgRows (q0 :: rr) cs' ++ (rowIdV v ++ S)).Nodup := by
        rw [← List.append_assoc] at hN ⊢
        have hp : (rowIdV v ++ sgRows (q0 :: rr) cs' ++ S).Perm (sgRows (q0 :: rr) cs' ++ rowIdV v ++ S) := List.Perm.append_right S List.perm_append_comm
        exact hp.nodup_iff.1 hN
      obtain ⟨Z2, w1, w2, w3⟩ := hs z3 hN2 hb'
      refine ⟨Z2, z2.trans w1, ?_, .cons ((hz Z nc z1).mono w1) w3⟩
      refine w2.perm fun j => ?_
      simp only [List.mem_append]
      constructor
      · rintro (h | h | h)
        · exact .inl (.inr h)
        · exact .inl (.inl h)
        · exact .inr h
      · rintro ((h | h) | h)
        · exact .inr (.inl h)
        · exact .inl h
        · exact .inr (.inr h)
    · cases e
variable {t : T V} {tP : T PV}
/-- the blocks of one place -/
def plSrc1 (t : T V) (h : H) (p : Pl) : List Nat := plSrc t h [p]
theorem plSrc_cons (p : Pl) (l : List Pl) : plSrc t h (p :: l) = plSrc1 t h p ++ plSrc t h l := by
  unfold plSrc1
  cases p <;> simp [plSrc]
theorem layPl_mono (tc : T V) (hc : H) (nc : Nat) (p : Pl) (s : p.den) : nc ≤ (layPl tc hc nc p s).2.2 := by
  cases p with
  | slot => exact Nat.le_refl _
  | srow => exact Nat.le_succ _
  | box id sg => exact laySg_mono sg hc nc s
  | map => exact Nat.le_refl _
theorem layPls_mono : ∀ (l : List Pl) (tc : T V) (hc : H) (nc : Nat) (s : plDen l), nc ≤ (layPls tc hc nc l s).2.2
  | [], _, _, _, _ => Nat.le_refl _
  | [p], tc, hc, nc, s => layPl_mono tc hc nc p s
  | p :: q :: r, tc, hc, nc, s => Nat.le_trans (layPl_mono tc hc nc p s.1) (layPls_mono (q :: r) _ _ _ s.2)
theorem rowJ (r : RH X h n) {g : Bool} {c : Ty} {l : List c.den} {ex : Bool} {a : At} {v : V} (ha : (a = .nil ∧ l = [] ∧ ex = false ∧ rowIdV v = []) ∨ ∃ j, rowIdV v = [j] ∧ h.get j = some (.row g c l ex false false) ∧ X.π j = some a) :
    ∀ j, h.get j = some (.row g c l ex false false) → X.π j = some a → j ∉ S → a ≠ .nil → j ∈ rowIdV v := fun j h1 h2 _ h4 => by
  rcases ha with ⟨k1, _⟩ | ⟨j', k1, k2, k3⟩
  · exact absurd k1 h4
  · rw [k1]
    cases a with
    | blk p m =>
      have := r.inj _ _ _ _ _ _ _ h1 k2 trivial trivial h2 k3
      simp [this]
    | nil => exact absurd rfl h4
    | fz es =>
      have := r.blk _ _ h1
      rw [h2] at this
      rcases this with ⟨_, _, _, _, q, _⟩ | ⟨q, _⟩ | ⟨_, q, _, q2, _⟩
      · cases q
      · cases q
      · cases q2
theorem layPl_ok (r : RH X h n) (hn : nx0 ≤ 1048575) (ht : TR X t tP) {nt : Nat} (hnt : nt < 1048575) {p : Pl} (hsl : slotsOk nt [p] = true) (hid : ∀ i ∈ plIds [p], i < nx0) {K : p.den → Option β} (e : decPl t h p K = some x) :
    ∃ s, K s = some x ∧ ∀ {Y : Cx} {S : List Nat} {tc : T V} {hc : H} {nc : Nat}, LInv X h nx0 Y S hc nc → TR Y tc tP → (plSrc1 t h p ++ S).Nodup → (layPl tc hc nc p s).2.2 ≤ 1048575 →
      ∃ Z, Up Y Z ∧ LInv X h nx0 Z (plSrc1 t h p ++ S) (layPl tc hc nc p s).2.1 (layPl tc hc nc p s).2.2 ∧ TR Z (layPl tc hc nc p s).1 tP := by
  have put : ∀ {Y : Cx} {tc : T V} {k : Nat} {v : V} {q : PV}, TR Y tc tP → k < 1048575 → tP.get k = some q → VR Y v q → TR Y (T.put 20 tc k v) tP := by
    intro Y tc k v q hT hk hq hv i w hi
    have h20 : (2 : Nat) ^ 20 - 1 = 1048575 := by decide
    rw [T.get_put 20 tc k v i (by omega)] at hi
    by_cases hik : i = k
    · rw [if_pos hik] at hi; cases hi; rw [hik]; exact ⟨q, hq, hv⟩
    · rw [if_neg hik] at hi; exact hT i w hi
  cases p with
  | slot k g c =>
    unfold decPl at e
    replace e := opt_some e; obtain ⟨v, hv, e⟩ := e
    obtain ⟨q, hq, hvr⟩ := ht _ _ hv
    replace e := decE0_ok hvr e; obtain ⟨y, e, hE⟩ := e
    have hk : k < 1048575 := by
      have : k < nt := by simpa [slotsOk] using hsl
      omega
    refine ⟨y, e, fun {Y S tc hc nc} L hT hN hb => ⟨Y, Up.refl _, ?_, ?_⟩⟩
    · exact L
    · refine put hT hk hq (elV_ok (X := Y) ?_)
      have hQ : Y.Q = X.Q := by unfold Cx.Q; rw [L.oo]
      rw [L.hh, hQ]; exact hE
  | srow k g c ex =>
    unfold decPl at e
    replace e := opt_some e; obtain ⟨v, hv, e⟩ := e
    obtain ⟨q, hq, hvr⟩ := ht _ _ hv
    obtain ⟨l, a, e1, ha, hz⟩ := rowOf_ok r hvr e
    have hk : k < 1048575 := by
      have : k < nt := by simpa [slotsOk] using hsl
      omega
    have hsr : plSrc1 t h (.srow k g c ex) = rowIdV v := by simp [plSrc1, plSrc, hv]
    refine ⟨l, e1, fun {Y S tc hc nc} L hT hN hb => ?_⟩
    rw [hsr] at hN ⊢
    have hb' : nc + 1 ≤ 1048575 := hb
    obtain ⟨Z, z1, z2, z3⟩ := L.row r (g := g) (c := c) (l := l) (ex := ex) (a := a) (J := rowIdV v) (by omega) (by
      rcases ha with ⟨h1, h2, h3, _⟩ | ⟨j, h1, h2, h3⟩
      · exact .inl ⟨h1, h2, h3⟩
      · refine .inr ⟨j, ?_, h2, h3⟩
        rw [h1] at hN
        exact (List.nodup_cons.1 hN).1) (rowJ r ha)
    exact ⟨Z, z2, z3, put (hT.mono z2) hk hq (hz Z nc z1)⟩
  | box id sg =>
    simp only [decPl] at e
    split at e
    · rename_i cs hg
      have hB := r.blk _ _ hg
      obtain ⟨pid, m, ps, fz', b1, b2, b3, b4, b5⟩ := hB
      obtain ⟨s, e1, hs⟩ := laySg_ok (nx0 := nx0) r b5 e
      have hsr : plSrc1 t h (.box id sg) = sgRows sg cs ++ [id] := by simp [plSrc1, plSrc, hg]
      refine ⟨s, e1, fun {Y S tc hc nc} L hT hN hb => ?_⟩
      rw [hsr] at hN ⊢
      have hlt : id < nx0 := hid id (by simp [plIds])
      have hN1 : (sgRows sg cs ++ S).Nodup := by
        have hp : (sgRows sg cs ++ [id] ++ S).Perm ([id] ++ (sgRows sg cs ++ S)) := by
          rw [List.append_assoc]
          exact List.perm_append_comm_assoc _ _ _
        exact (List.nodup_cons.1 (hp.nodup_iff.1 hN)).2
      have hN2 : id ∉ sgRows sg cs ++ S := by
        have hp : (sgRows sg cs ++ [id] ++ S).Perm ([id] ++ (sgRows sg cs ++ S)) := by
          rw [List.append_assoc]
          exact List.perm_append_comm_assoc _ _ _
        exact (List.nodup_cons.1 (hp.nodup_iff.1 hN)).1
      obtain ⟨Z, z1, z2, z3⟩ := hs L hN1 hb
      have L2' := z2.put r (c := .box (laySg hc nc sg s).1 false false) hlt (by omega) hg trivial hN2 (by
        rw [b1]
        exact ⟨pid, m, ps, fz', rfl, by rw [z2.oo]; exact b2, by rw [z2.hh]; exact b3, b4, z3⟩)
      refine ⟨Z, z1, ?_, hT.mono z1⟩
      refine L2'.perm fun j => ?_
      simp only [List.mem_cons, List.mem_append, List.not_mem_nil, or_false]
      constructor
      · rintro (h | h | h)
        · exact .inl (.inr h)
        · exact .inl (.inl h)
        · exact .inr h
      · rintro ((h | h) | h)
        · exact .inr (.inl h)
        · exact .inl h
        · exact .inr (.inr h)
    · cases e
  | map id k g c =>
    simp only [decPl] at e
    split at e
    · rename_i k' g' c' l hg
      replace e := bifY e; obtain ⟨hgg, e⟩ := e
      have := eq_of_beq hgg; subst this
      unfold castM at e
      split at e
      · rename_i hk
        subst hk
        split at e
        · rename_i hc
          subst hc
          have hB := r.blk _ _ hg
          obtain ⟨pid, m, es, b1, b2, b3, b4⟩ := hB
          have hsr : plSrc1 t h (.map id k' g c') = [id] := by simp [plSrc1, plSrc]
          refine ⟨l, e, fun {Y S tc hc nc} L hT hN hb => ?_⟩
          rw [hsr] at hN ⊢
          have hlt : id < nx0 := hid id (by simp [plIds])
          have L2' := L.put r (c := .mp k' g c' l false) hlt (by omega) hg trivial ((List.nodup_cons.1 hN).1) (by
            rw [b1]
            have hQ : Y.Q = X.Q := by unfold Cx.Q; rw [L.oo]
            exact ⟨pid, m, es, rfl, by rw [L.oo]; exact b2, by rw [L.hh]; exact b3, by
              unfold MR
              rw [L.hh, hQ]; exact b4⟩)
          exact ⟨Y, Up.refl _, L2', hT⟩
        · cases e
      · cases e
    · cases e
theorem slotsOk_cons {nt : Nat} {p : Pl} {l : List Pl} (h : slotsOk nt (p :: l) = true) : slotsOk nt [p] = true ∧ slotsOk nt l = true := by
  cases p <;> simp [slotsOk] at h ⊢ <;> exact h
theorem plIds_cons {p : Pl} {l : List Pl} {i : Nat} : (i ∈ plIds [p] → i ∈ plIds (p :: l)) ∧ (i ∈ plIds l → i ∈ plIds (p :: l)) := by
  refine ⟨fun h => ?_, fun h => ?_⟩ <;> cases p <;> simp [plIds] at h ⊢ <;> simp [h]
theorem layPls_ok (r : RH X h n) (hn : nx0 ≤ 1048575) (ht : TR X t tP) {nt : Nat} (hnt : nt < 1048575) : ∀ {l : List Pl} {K : plDen l → Option β}, slotsOk nt l = true → (∀ i ∈ plIds l, i < nx0) → decPls t h l K = some x →
    ∃ s, K s = some x ∧ ∀ {Y : Cx} {S : List Nat} {tc : T V} {hc : H} {nc : Nat}, LInv X h nx0 Y S hc nc → TR Y tc tP → (plSrc t h l ++ S).Nodup → (layPls tc hc nc l s).2.2 ≤ 1048575 →
      ∃ Z, Up Y Z ∧ LInv X h nx0 Z (plSrc t h l ++ S) (layPls tc hc nc l s).2.1 (layPls tc hc nc l s).2.2 ∧ TR Z (layPls tc hc nc l s).1 tP
  | [], K, _, _, e => ⟨(), e, fun L hT _ _ => ⟨_, Up.refl _, L, hT⟩⟩
  | [p], K, hsl, hid, e => by
    obtain ⟨s, e1, hs⟩ := layPl_ok r hn ht hnt hsl hid e
    exact ⟨s, e1, fun L hT hN hb => hs L hT hN hb⟩
  | p :: q :: rr, K, hsl, hid, e => by
    unfold decPls at e
    obtain ⟨s1, s2⟩ := slotsOk_cons hsl
    obtain ⟨s, e1, hs⟩ := layPl_ok r hn ht hnt s1 (fun i hi => hid i (plIds_cons.1 hi)) e
    obtain ⟨u, e2, hu⟩ := layPls_ok r hn ht hnt (l := q :: rr) s2 (fun i hi => hid i (plIds_cons.2 hi)) e1
    refine ⟨(s, u), e2, fun {Y S tc hc nc} L hT hN hb => ?_⟩
    rw [plSrc_cons] at hN ⊢
    have hb' : (layPls (layPl tc hc nc p s).1 (layPl tc hc nc p s).2.1 (layPl tc hc nc p s).2.2 (q :: rr) u).2.2 ≤ 1048575 := hb
    rw [List.append_assoc] at hN
    have hp : (plSrc1 t h p ++ (plSrc t h (q :: rr) ++ S)).Perm (plSrc t h (q :: rr) ++ (plSrc1 t h p ++ S)) := List.perm_append_comm_assoc _ _ _
    have hN2 := hp.nodup_iff.1 hN
    obtain ⟨Z, z1, z2, z3⟩ := hs L hT (List.nodup_append.1 hN2).2.1 (Nat.le_trans (layPls_mono (q :: rr) _ _ _ u) hb')
    obtain ⟨Z2, w1, w2, w3⟩ := hu z2 z3 hN2 hb'
    refine ⟨Z2, z1.trans w1, ?_, w3⟩
    refine w2.perm fun j => ?_
    simp only [List.mem_append]
    constructor
    · rintro (h | h | h)
      · exact .inl (.inr h)
      · exact .inl (.inl h)
      · exact .inr h
    · rintro ((h | h) | h)
      · exact .inr (.inl h)
      · exact .inl h
      · exact .inr (.inr h)
end
end Go.Proofs.YtopoaknleakdcaaGreat.Sv
