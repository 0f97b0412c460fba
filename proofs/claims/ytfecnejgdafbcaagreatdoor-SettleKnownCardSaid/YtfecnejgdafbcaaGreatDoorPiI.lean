/- A part of the evaluator of the model's code and of its soundness, for any program. No condition. -/
import Derived.Test.YtfecnejgdafbcaaGreatDoorPiH
namespace Go.Proofs.YtfecnejgdafbcaaGreatDoor.Pi
set_option linter.all false
variable [Gl]
section
variable {P : Program} {M : Mem} {μ : Mu} {h : Hp} {w : World}

def ORep (M : Mem) (μ : Mu) : Option PV → Option Value → Prop
  | none, none => True
  | some p, some v => Rep M μ p v
  | _, _ => False
theorem evo_ok {t : T PV} {nt : Nat} {a : Act} (gl : GlOK M) (ht : TmpsRep M μ t nt a.tmps) {o : Option Operand} {p : Option PV} (e : evo t o = some p) : ORep M μ p (o.map a.eval) := by
  cases o with
  | none => cases e; trivial
  | some o =>
    simp only [evo] at e
    cases hp : evs t o with
    | none => rw [hp] at e; cases e
    | some q => rw [hp] at e; cases e; exact evs_ok gl ht hp
theorem sliceBound_ok {k : IntKind} {i : Int} {y : Nat} (h0 : 0 ≤ i) (hle : i.toNat ≤ y) (c : BoundsCode) : (Instr.sliceBound (.int k i) y c).run P w = .ok i.toNat w := by
  have : 0 ≤ i ∧ i ≤ (y : Int) := ⟨h0, by omega⟩
  simp [Instr.sliceBound, asIntOf, this]
theorem natOr_ok {d n : Nat} {p : Option PV} {v : Option Value} (e : natOr d p = some n) (hr : ORep M μ p v) : (p = none ∧ v = none ∧ n = d) ∨ ∃ k i, v = some (.int k i) ∧ p.isSome = true ∧ 0 ≤ i ∧ i.toNat = n := by
  cases p with
  | none => cases v with
    | none => cases e; exact .inl ⟨rfl, rfl, rfl⟩
    | some v => exact hr.elim
  | some p => cases v with
    | none => exact hr.elim
    | some v => obtain ⟨k, i, _, rfl, h0, h1⟩ := asNat_ok e hr; exact .inr ⟨k, i, rfl, rfl, h0, h1⟩
theorem bounds_ok {isS : Bool} {len cap l hh m : Nat} {lo hi mx : Option PV} {vlo vhi vmx : Option Value} (rlo : ORep M μ lo vlo) (rhi : ORep M μ hi vhi) (rmx : ORep M μ mx vmx)
    (elo : natOr 0 lo = some l) (ehi : natOr len hi = some hh) (emx : natOr cap mx = some m) (hm : m ≤ cap) (hhm : hh ≤ m) (hl : l ≤ hh) (hmx : mx.isSome = true → hi.isSome = true) :
    (Instr.sliceBounds isS len cap vlo vhi vmx).run P w = .ok (l, hh, m) w := by
  rcases natOr_ok emx rmx with ⟨rfl, rfl, rfl⟩ | ⟨k, i, rfl, hs, h0, rfl⟩
  · rcases natOr_ok ehi rhi with ⟨_, rfl, rfl⟩ | ⟨k', i', rfl, _, h0', rfl⟩
    · rcases natOr_ok elo rlo with ⟨_, rfl, rfl⟩ | ⟨k2, i2, rfl, _, h02, rfl⟩
      · simp only [Instr.sliceBounds, Sem.run_bind, Sem.run_pure, Result.andThen]
      · simp only [Instr.sliceBounds, Sem.run_bind, Sem.run_pure, Result.andThen, sliceBound_ok h02 hl]
    · rcases natOr_ok elo rlo with ⟨_, rfl, rfl⟩ | ⟨k2, i2, rfl, _, h02, rfl⟩
      · simp only [Instr.sliceBounds, Sem.run_bind, Sem.run_pure, Result.andThen, sliceBound_ok h0' hhm]
      · simp only [Instr.sliceBounds, Sem.run_bind, Sem.run_pure, Result.andThen, sliceBound_ok h0' hhm, sliceBound_ok h02 hl]
  · have hhi := hmx hs
    rcases natOr_ok ehi rhi with ⟨rfl, _, _⟩ | ⟨k', i', rfl, _, h0', rfl⟩
    · cases hhi
    · rcases natOr_ok elo rlo with ⟨_, rfl, rfl⟩ | ⟨k2, i2, rfl, _, h02, rfl⟩
      · simp only [Instr.sliceBounds, Sem.run_bind, Sem.run_pure, Result.andThen, sliceBound_ok h0' hhm, sliceBound_ok h0 hm]
      · simp only [Instr.sliceBounds, Sem.run_bind, Sem.run_pure, Result.andThen, sliceBound_ok h0' hhm, sliceBound_ok h0 hm, sliceBound_ok h02 hl]

theorem nbltF {a b : Nat} (e : Nat.blt a b = false) : b ≤ a := by
  by_cases h : a < b
  · have : Nat.blt a b = true := by simpa using h
    rw [this] at e; cases e
  · omega
theorem str_of {l : List UInt8} {s : ByteArray} (e : s.data.toList = l) (μ : Mu) : Rep M μ (.str l) (.string s) := by subst e; exact .str _ s

/-- a part of a list -/
theorem lst_cut {full full' : Bool} {es : List PV} {a : Option Addr} {len cap l hh m n : Nat} (hr : Rep M μ (.lst full es) (.slice a len cap)) (hl : l ≤ hh) (hh' : hh ≤ es.length) (hm : hh ≤ m) (_hmc : m ≤ cap) (hel : elOk n es = true)
    (hf : full' = true → m = hh) : Rep M μ (.lst full' ((es.drop l).take (hh - l))) (.slice (if m = l then a else a.map (·.add (l * n))) (hh - l) (m - l)) := by
  have hlen : ((es.drop l).take (hh - l)).length = hh - l := by simp; omega
  by_cases h0 : hh = l
  · subst h0
    have : (es.drop hh).take (hh - hh) = [] := by simp
    rw [this, Nat.sub_self]
    refine .lst0' ?_ fun hx => by have := hf hx; omega
    have : a ≠ none := by cases hr <;> (intro h; cases h)
    cases a with
    | none => exact absurd rfl this
    | some a => split <;> (intro h; cases h)
  · cases hr with
    | lst0 => simp at hh'; omega
    | lst _ _ _ b off esz _ x hfull hc hs hmem h1 hrep =>
      have hz : esz = n := by
        cases es with
        | nil => simp at hh'; omega
        | cons e es => have := hs 0 e rfl; simp [elOk] at hel; omega
      subst hz
      rw [if_neg (by omega)]
      simp only [Option.map_some, add_none]
      have : Rep M μ (.lst full' ((es.drop l).take (hh - l))) (.slice (some ⟨b, off + l * esz, none⟩) ((es.drop l).take (hh - l)).length (m - l)) := by
        have hget : ∀ (i : Nat) (e : PV), ((es.drop l).take (hh - l))[i]? = some e → es[l + i]? = some e := by
          intro i e he
          rw [List.getElem?_take] at he
          split at he
          · rwa [List.getElem?_drop] at he
          · cases he
        refine .lst _ _ _ _ _ esz _ (fun i j => x (l + i) j) (fun hx => by have := hf hx; omega) (by omega) (fun i e he => hs _ e (hget i e he)) (fun i e j c he hc => ?_) (fun i e j c he hc => h1 _ e j c (hget i e he) hc) (fun i e j c he hc => hrep _ e j c (hget i e he) hc)
        have := hmem _ e j c (hget i e he) hc
        rw [Nat.add_mul] at this
        rw [show off + l * esz + i * esz + j = off + (l * esz + i * esz) + j by omega]
        exact this
      rwa [hlen] at this
theorem lst_recap {full : Bool} {es : List PV} {a : Option Addr} {len cap : Nat} (hr : Rep M μ (.lst full es) (.slice a len cap)) : Rep M μ (.lst true es) (.slice a len len) := by
  cases hr with
  | lst0 => exact .lst0 _ _ _ _ fun _ => rfl
  | lst _ _ _ b off esz _ x hfull hc hs hmem h1 hrep => exact .lst _ _ _ _ _ esz _ x (fun _ => rfl) (Nat.le_refl _) hs hmem h1 hrep

theorem lst_len {full : Bool} {es : List PV} {a : Option Addr} {n c : Nat} (hr : Rep M μ (.lst full es) (.slice a n c)) : es.length = n := by
  cases hr <;> rfl
theorem run_sliceAt {ty el n len cap l hh m : Nat} {a : Option Addr} {vlo vhi vmx : Option Value} (hu : P.underlying ty = some (.slice el)) (hn : tsize P el = some n)
    (hb : (Instr.sliceBounds true len cap vlo vhi vmx).run P w = .ok (l, hh, m) w) :
    (Instr.sliceAt ty (.slice a len cap) vlo vhi vmx).run P w = .ok (.slice (if m = l then a else a.map (·.add (l * n))) (hh - l) (m - l)) w := by
  simp only [Instr.sliceAt, Instr.slice, Sem.run_bind, und_ok hu, Result.andThen, hb, tsize_ok hn, Sem.run_pure]

theorem slice_ok (s : Sim M μ h w) {ty : TypeId} {p : PV} {x : Value} {lo hi mx : Option PV} {vlo vhi vmx : Option Value} (hx : Rep M μ p x) (rlo : ORep M μ lo vlo) (rhi : ORep M μ hi vhi) (rmx : ORep M μ mx vmx) {r : R}
    (e : evSlice P h ty p lo hi mx = some r) : Says P M μ w ((do pure (.value (← Instr.sliceAt ty x vlo vhi vmx)) : Sem Next).run P w) r := by
  unfold evSlice at e
  split at e
  · rename_i l0 hu
    split at e
    · rename_i hh l ehi elo
      replace e := bifT e; obtain ⟨hc, e⟩ := e
      cases e
      simp at hc
      cases hx with
      | str _ sb =>
        cases vmx with
        | some v => exact rmx.elim
        | none =>
          have hsz : sb.size = sb.data.toList.length := by simp
          have hb := bounds_ok (P := P) (w := w) (isS := false) (len := sb.size) (cap := sb.size) rlo rhi (mx := none) (vmx := none) trivial elo (by rw [hsz]; exact ehi) rfl (Nat.le_refl _) (by rw [hsz]; exact hc.1) hc.2 (by intro h; cases h)
          refine says_val s (x := .string (sb.extract l hh)) ?_ (str_of ?_ μ)
          · simp [Instr.sliceAt, Instr.slice, und_ok hu, hb]
          · rw [← ByteArray.toList_eq, ByteArray.toList_eq, ByteArray.data_extract]; simp [List.extract_eq_take_drop]
    · cases e
  · rename_i el p' hu
    split at e
    · cases e
    · rename_i n hn
      split at e
      · split at e
        · rename_i e1 e2 e3
          replace e := bifF e; obtain ⟨hc, e⟩ := e
          cases e
          cases hx
          have hb := bounds_ok (P := P) (w := w) (isS := true) (len := 0) (cap := 0) rlo rhi rmx e1 e2 e3 (Nat.le_refl _) (Nat.le_refl _) (Nat.le_refl _) (by
            intro hs; cases hi with
            | none => simp [hs] at hc
            | some _ => rfl)
          exact says_val s (run_sliceAt (a := none) hu hn hb) (by simpa using Rep.nils (M := M) μ)
        · cases e
      · rename_i full es
        replace e := bifF e; obtain ⟨hel, e⟩ := e
        simp at hel
        split at e
        · rename_i l hh elo ehi
          have hsl : ∃ a cap, x = .slice a es.length cap ∧ es.length ≤ cap ∧ (full = true → cap = es.length) := by
            cases hx with
            | lst0 _ _ a cap hf => exact ⟨some a, cap, rfl, by simp, hf⟩
            | lst _ _ _ b off esz cap x hf hc hs hm h1 hr => exact ⟨_, _, rfl, hc, hf⟩
          obtain ⟨a, cap, rfl, hcap, hfull⟩ := hsl
          split at e
          · replace e := bifT e; obtain ⟨hc, e⟩ := e
            cases e
            simp at hc
            cases vmx with
            | some v => exact rmx.elim
            | none =>
              have hb := bounds_ok (P := P) (w := w) (isS := true) (len := es.length) (cap := cap) rlo rhi (mx := none) (vmx := none) trivial elo ehi rfl (Nat.le_refl _) (by omega) hc.2 (by intro h; cases h)
              refine says_val s (run_sliceAt hu hn hb) (lst_cut hx hc.2 hc.1 (by omega) (Nat.le_refl _) hel ?_)
              intro hf
              simp at hf
              have := hfull hf.1
              omega
          · rename_i mp
            split at e
            · rename_i m em
              replace e := bifT e; obtain ⟨hc, e⟩ := e
              cases e
              simp at hc
              obtain ⟨⟨⟨hc1, hc2⟩, hc3⟩, hc4⟩ := hc
              have hb := bounds_ok (P := P) (w := w) (isS := true) (len := es.length) (cap := cap) rlo rhi rmx elo ehi (show natOr cap (some mp) = some m from em) (by omega) hc2 hc3 (fun _ => hc4)
              refine says_val s (run_sliceAt hu hn hb) (lst_cut hx hc3 (by omega) hc2 (by omega) hel ?_)
              intro hf
              simp at hf; omega
            · cases e
        · cases e
      · rename_i j off len
        split at e
        · rename_i es ex fz hb0
          replace e := bifF e; obtain ⟨hel, e⟩ := e
          simp at hel
          split at e
          · rename_i l hh elo ehi
            replace e := bifF e; obtain ⟨hc, e⟩ := e
            simp at hc
            obtain ⟨hc1, hc2⟩ := hc
            cases hx with
            | own _ _ _ _ r hr hcap =>
              obtain ⟨r', hr', arr, ety, h1, h2, h3, h4, h5, h6, h7⟩ := s.blk j _ hb0
              rw [hr] at hr'; cases hr'
              have addr : ∀ m, l < m → off + l < es.length → (if m = l then some (⟨r.b, r.base + off * r.esz, none⟩ : Addr) else (some ⟨r.b, r.base + off * r.esz, none⟩ : Option Addr).map (·.add (l * n))) = some ⟨r.b, r.base + (off + l) * r.esz, none⟩ := by
                intro m hm hlt
                rw [if_neg (by omega)]
                have : n = r.esz := by
                  cases es with
                  | nil => simp at hlt
                  | cons e0 es => have := h6 0 e0 rfl; simp [elOk] at hel; omega
                simp only [Option.map_some, add_none, this, Nat.add_mul]
                congr 2; omega
              split at e
              · cases vmx with
                | some v => exact rmx.elim
                | none =>
                  have hb := bounds_ok (P := P) (w := w) (isS := true) (len := len) (cap := r.cap - off) rlo rhi (mx := none) (vmx := none) trivial elo ehi rfl (Nat.le_refl _) (by omega) hc1 (by intro h; cases h)
                  cases hlt : Nat.blt (off + l) es.length with
                  | true =>
                    rw [hlt] at e; cases e
                    simp at hlt
                    refine says_val s (run_sliceAt hu hn hb) ?_
                    rw [addr _ (by omega) hlt]
                    have := Rep.own (M := M) μ j (off + l) (hh - l) r hr (by omega)
                    rwa [show r.cap - (off + l) = r.cap - off - l by omega] at this
                  | false =>
                    rw [hlt] at e; cases e
                    have hge : es.length ≤ off + l := nbltF hlt
                    refine says_val s (run_sliceAt hu hn hb) ?_
                    rw [show hh - l = 0 by omega]
                    exact .lst0' (by first | (split <;> (intro h; cases h)) | (intro h; cases h)) (by intro h; cases h)
              · rename_i mp
                split at e
                · rename_i m em
                  cases hA : (hi.isSome && Nat.ble hh m && ex && Nat.beq (off + m) es.length) with
                  | true =>
                    rw [hA] at e
                    simp at hA
                    obtain ⟨⟨⟨a1, a2⟩, rfl⟩, a4⟩ := hA
                    have hcapE := h4 rfl
                    have hb := bounds_ok (P := P) (w := w) (isS := true) (len := len) (cap := r.cap - off) rlo rhi rmx elo ehi (show natOr (r.cap - off) (some mp) = some m from em) (by omega) a2 hc1 (fun _ => a1)
                    cases hlt : Nat.blt (off + l) es.length with
                    | true =>
                      rw [hlt] at e; cases e
                      simp at hlt
                      refine says_val s (run_sliceAt hu hn hb) ?_
                      rw [addr _ (by omega) hlt]
                      have := Rep.own (M := M) μ j (off + l) (hh - l) r hr (by omega)
                      rwa [show r.cap - (off + l) = m - l by omega] at this
                    | false =>
                      rw [hlt] at e; cases e
                      have hge : es.length ≤ off + l := nbltF hlt
                      refine says_val s (run_sliceAt hu hn hb) ?_
                      rw [show hh - l = 0 by omega, show m - l = 0 by omega]
                      exact .lst0' (by first | (split <;> (intro h; cases h)) | (intro h; cases h)) (fun _ => rfl)
                  | false =>
                    rw [hA] at e
                    simp only [cond_false] at e
                    replace e := bifT e; obtain ⟨hB, e⟩ := e
                    simp at hB
                    obtain ⟨b1, rfl⟩ := hB
                    have hb := bounds_ok (P := P) (w := w) (isS := true) (len := len) (cap := r.cap - off) rlo rhi rmx elo ehi (show natOr (r.cap - off) (some mp) = some m from em) (by omega) (Nat.le_refl _) hc1 (fun _ => b1)
                    unfold cutData at e
                    split at e
                    · rename_i f xs ids hp
                      obtain ⟨h', hfr, rfl⟩ := mapOpt e
                      obtain ⟨M', m1, m2, m3, _⟩ := freeze_ok ids s hfr
                      have hq := (pur_ok s ids _ _ _ _ _ hp (Rep.own μ j (off + l) (m - l) r hr (by omega)) (fun _ h => h)).mono m1 (.refl _)
                      have hfin := (lst_recap hq).mono (.refl _) (.mu0 μ)
                      refine ⟨M', μ, w, _, by simp only [Sem.run_bind, run_sliceAt hu hn hb, Result.andThen, Sem.run_pure]; rfl, m2, freeze_grow m1 m3, ?_⟩
                      by_cases hlm : m = l
                      · subst hlm
                        rw [Nat.sub_self] at hfin ⊢
                        have : xs = [] := List.eq_nil_of_length_eq_zero (lst_len hfin)
                        subst this
                        exact .lst0' (by first | (split <;> (intro h; cases h)) | (intro h; cases h)) (fun _ => rfl)
                      · rw [addr _ (by omega) (by omega)]
                        exact hfin
                    · cases e
                · cases e
          · cases e
        · cases e
      · cases e
  · cases e
end
end Go.Proofs.YtfecnejgdafbcaaGreatDoor.Pi
