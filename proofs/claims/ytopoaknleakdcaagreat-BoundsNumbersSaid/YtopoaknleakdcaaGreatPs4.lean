/- A part of the evaluator over typed open values for any program, and of the proof that it is sound. No condition. -/
import Derived.Test.YtopoaknleakdcaaGreatPs3
import Derived.RowKit3
import Derived.Test.YtopoaknleakdcaaGreatPp4
import Derived.Test.YtopoaknleakdcaaGreatPs0
import Derived.IntWalk
set_option linter.unusedVariables false
namespace Go.Proofs.YtopoaknleakdcaaGreat.Sv
open Go.Proofs.YtopoaknleakdcaaGreat.Pi (PV T Hp Blk DF UM PE lget_eq lset_eq mapPur pur purl)
section
variable {P : Program} {tab : Tab}
/-- a world with a heap that has the same blocks -/
def Cx.with (X : Cx) (h2 : Hp) : Cx := { X with h := h2 }
theorem up_with {X : Cx} {h2 : Hp} (g : ∀ q, h2.get q = X.h.get q) : Up X (X.with h2) := ⟨fun _ _ h => h, fun q es ex fz hq hg => ⟨⟨fz, by show h2.get q = _; rw [g]; exact hg⟩, hq⟩⟩
theorem RH.with {X : Cx} {h : H} {n : Nat} {h2 : Hp} (r : RH X h n) (g : ∀ q, h2.get q = X.h.get q) (hn : h2.nx = X.h.nx) : RH (X.with h2) h n :=
  ⟨fun i c hi => (r.blk i c hi).keep (up_with g) fun _ _ _ hO => ⟨g _, hO⟩, r.inj, r.dom, fun q hq => by show h2.get q = none; rw [g]; exact r.fresh q (by have : h2.nx ≤ q := hq; omega), fun q hq => by show h2.get q ≠ none; rw [g]; exact r.ob q hq⟩
theorem St.with {X Y : Cx} {h h' : H} {id idP : Nat} {h2 : Hp} (s : St X h id idP Y h') (g : ∀ q, h2.get q = Y.h.get q) (hn : h2.nx = Y.h.nx) : St X h id idP (Y.with h2) h' :=
  ⟨s.up.trans (up_with g), by show h2.nx = _; rw [hn]; exact s.nx, s.pin, fun q hq k => by show h2.get q = none; rw [g]; exact s.hpn q hq k, s.lk, fun q st pe nt t ps asg body d k => by show h2.get q = _; rw [g]; exact s.lps _ _ _ _ _ _ _ _ _ k⟩
/-- an operation that is behind us -/
def PastE (X : Cx) (baseP i len : Nat) (a : Nat × Nat) (b : Nat × List Nat × List Nat) : Prop :=
  a.1 = b.1 ∧ b.1 < i ∧ (∀ w ∈ b.2.2, w ∈ b.2.1) ∧ (a.2 ≤ 1 → b.2.2 = []) ∧ (∀ q ∈ b.2.1, ∀ k, i ≤ k → k < len → q ≠ baseP + k) ∧ (a.2 = 0 → b.2.1 = [baseP + b.1] ∧ X.h.get (baseP + b.1) = none)
theorem meets_false : ∀ {a b : List Nat}, (∀ x ∈ a, x ∉ b) → Pi.meets a b = false
  | [], b, _ => rfl
  | x :: a, b, h => by
    simp only [Pi.meets, Bool.or_eq_false_iff, List.any_eq_false]
    refine ⟨fun y hy hb => ?_, meets_false fun z hz => h z (by simp [hz])⟩
    have := Nat.eq_of_beq_eq_true hb
    subst this
    exact h x (by simp) hy
theorem ord_heap {X : Cx} {baseP i len bef c : Nat} {rd wr : List Nat} (hi : i < len) (hw : ∀ w ∈ wr, w ∈ rd) (h1 : c ≤ 1 → wr = []) (h0 : c = 0 ∨ c = 2 → rd = [baseP + i]) (hex : ∀ q ∈ rd, q = baseP + i ∨ X.h.get q ≠ none) :
    ∀ {pa : List (Nat × Nat)} {pp : List (Nat × List Nat × List Nat)}, L2 (PastE X baseP i len) pa pp → ordOk bef c pa = true → Pi.heapOk bef rd wr pp = true
  | [], pp, hl, _ => by rw [L2.nil_inv hl]; rfl
  | (j, d) :: pa, pp, hl, ho => by
    obtain ⟨⟨j', r, w⟩, pp', rfl, ⟨e1, e2, e3, e4, e5, e6⟩, hl'⟩ := L2.cons_inv hl
    simp only at e1 e2 e3 e4 e5 e6
    subst e1
    simp only [ordOk, Bool.and_eq_true, Bool.or_eq_true] at ho
    simp only [Pi.heapOk, Bool.and_eq_true, Bool.or_eq_true, Bool.not_eq_true']
    refine ⟨?_, ord_heap hi hw h1 h0 hex hl' ho.2⟩
    have own : ∀ x ∈ r, x ≠ baseP + i := fun x hx => e5 x hx i (Nat.le_refl _) hi
    rcases ho.1 with hb | hb | hb | hb | hb
    · exact .inl hb
    · have hc := Nat.eq_of_beq_eq_true hb
      refine .inr ?_
      rw [h0 (.inl hc), h1 (by omega)]
      exact Bool.or_eq_false_iff.2 ⟨meets_false fun x hx hm => own x (e3 x hx) (by simpa using hm), rfl⟩
    · have hc := Nat.eq_of_beq_eq_true hb
      have hr := h0 (.inr hc)
      refine .inr (Bool.or_eq_false_iff.2 ⟨meets_false fun x hx hm => own x (e3 x hx) (by rw [hr] at hm; simpa using hm), meets_false fun x hx hm => own x hm (by have := hw x hx; rw [hr] at this; simpa using this)⟩)
    · have hd := Nat.eq_of_beq_eq_true hb
      obtain ⟨f1, f2⟩ := e6 hd
      refine .inr (Bool.or_eq_false_iff.2 ⟨by rw [e4 (by omega)]; rfl, meets_false fun x hx hm => ?_⟩)
      rw [f1] at hm
      have hxe : x = baseP + j := by simpa using hm
      rcases hex x (hw x hx) with hh | hh
      · omega
      · rw [hxe] at hh; exact hh f2
    · have hc := Nat.eq_of_beq_eq_true hb.1
      have hd := Nat.eq_of_beq_eq_true hb.2
      exact .inr (Bool.or_eq_false_iff.2 ⟨by rw [e4 (by omega)]; rfl, by rw [h1 (by omega)]; rfl⟩)
theorem PastE.next {X Y : Cx} {h h' : H} {baseP base i len : Nat} {a : Nat × Nat} {b : Nat × List Nat × List Nat} (s : St X h (base + i) (baseP + i) Y h') (k : PastE X baseP i len a b) : PastE Y baseP (i + 1) len a b := by
  obtain ⟨e1, e2, e3, e4, e5, e6⟩ := k
  exact ⟨e1, by omega, e3, e4, fun q hq k h1 h2 => e5 q hq k (by omega) h2, fun hd => ⟨(e6 hd).1, s.hpn _ (by omega) (e6 hd).2⟩⟩
theorem putT_ok {β : Type} {x : β} {X : Cx} {t : T V} {tP : T PV} (ht : TR X t tP) {nt : Nat} (hnt : nt < 1048575) {dst : Option Nat} {v : V} {p : PV} (hv : VR X v p) {K : T V → Option β} (e : putT t nt dst v K = some x) :
    ∃ t' tP', K t' = some x ∧ TR X t' tP' ∧ (∀ d, dst = some d → Nat.blt d nt = true ∧ tP' = T.put 20 tP d p) ∧ (dst = none → tP' = tP) := by
  unfold putT at e
  split at e
  · rename_i d
    replace e := bifY e; obtain ⟨hd, e⟩ := e
    have hd' : d < nt := by simpa using hd
    exact ⟨_, _, e, ht.put (d := d) (by omega) hv, fun d' hd2 => (by cases hd2; exact ⟨hd, rfl⟩), fun h => (by cases h)⟩
  · exact ⟨_, _, e, ht, fun d hd => (by cases hd), fun _ => rfl⟩
theorem DX.flat {hh : Hp} {Q Q' : Nat → Prop} : ∀ {c : Ty} {y : c.den} {ps : List PV}, c.hasSl = false → DX hh Q Q' c y ps → Pi.flatl ps = true
  | .int _, _, _, _, e => by subst e; rfl
  | .bool, _, _, _, e => by subst e; rfl
  | .str, _, _, _, e => by subst e; rfl
  | .unit, _, _, _, e => by subst e; rfl
  | .pair a b, _, _, hs, ⟨p, q, e, h1, h2⟩ => by
    subst e
    simp only [Ty.hasSl, Bool.or_eq_false_iff] at hs
    have f1 := DX.flat hs.1 h1
    have f2 := DX.flat hs.2 h2
    clear h1 h2
    induction p with
    | nil => exact f2
    | cons a p ih =>
      simp only [Pi.flatl, Bool.and_eq_true] at f1
      simp only [List.cons_append, Pi.flatl, f1.1, Bool.true_and]
      exact ih f1.2
  | .sl _ _, _, _, hs, _ => by cases hs
theorem res_not_own {hR : Hp} {l : List (Bool × Ty)} {y : domDen l} {r : PV} (hs : codSl l = false) (h : resX hR l y r) : ∀ j a b, r ≠ .own j a b := by
  intro j a b hr
  subst hr
  match l, y, h with
  | [], y, ⟨rs, h1, _⟩ => cases h1
  | [p], y, h =>
    have hs' : p.2.hasSl = false := by simpa [codSl] using hs
    have h' : EP p.1 (DX hR (fun _ => True) (fun _ => True) p.2) y (.own j a b) := h
    cases hp : p.1 with
    | true => rw [hp] at h'; obtain ⟨cs, h1, _⟩ := h'; cases h1
    | false =>
      rw [hp] at h'
      have := DX.flat hs' (show DX hR _ _ p.2 y [.own j a b] from h')
      simp [Pi.flatl, Pi.flat] at this
  | p :: q :: rr, y, ⟨rs, h1, _⟩ => cases h1
theorem handBack_flat {hR : Hp} {l : List (Bool × Ty)} {y : domDen l} {r : PV} (hd : domOk l = true) (hs : codSl l = false) (h : resX hR l y r) : ∃ q, (∀ (id : Nat) (lP : List Nat) (hh : Hp), Pi.handBack id lP hh hR r = some (q, hh)) ∧ resP l y q ∧ Pi.flat q = true := by
  obtain ⟨q, ids, h1, h2⟩ := pur_res hd h
  have hf := resP_flat hs h2
  refine ⟨q, fun id lP hh => ?_, h2, hf⟩
  unfold Pi.handBack
  have no := res_not_own hs h
  split
  · rename_i len qs ex hm
    split at hm
    · exact absurd rfl (no _ _ _)
    · cases hm
  · rw [h1]
    simp only [hf, cond_true]
/-- a call in a drawn region, its answer without memory -/
theorem call_any {tP : T PV} {h h' : Hp} {id : Nat} {o : Oper} (hc : callOp o.op = true) : Pi.evalOp P tP h id o = Pi.evalOp P tP h' id o := by
  unfold Pi.evalOp
  generalize o.op = op at hc
  cases op with
  | call c =>
    simp only
    split
    · cases hcal : c.callee with
      | builtin b => simp [callOp, hcal] at hc
      | value f => rfl
      | invoke a b => rfl
    · rfl
  | _ => cases hc
theorem drawnCall_ok (TO : TabOK P tab) {X : Cx} {h : H} {n idP : Nat} (r : RH X h n) {o : Oper} {tP : T PV} {f : FuncId} {sg : Sg} (hf : tab f = some (some sg)) (hcs : codSl sg.cod = false) {args : List V} {ps : List PV} (hdr : Pi.drawable o.op = true) (hco : callOp o.op = true) (hev : Pi.evalOp P tP X.h idP o = some (.call f ps)) {β : Type} {x : β} {K : V → H → Option β} (ha : VRL X args ps) (e : callT h sg args K = some x) :
    ∃ v q rd, K v h = some x ∧ VR X v q ∧ (∀ a ∈ rd, a = idP ∨ X.h.get a ≠ none) ∧ ∃ N, ∀ F m, N ≤ F → N ≤ m → Pi.drawnOp P (Pi.doN P (shOf tab) F m) tP X.h idP o = some (q, X.h, rd, []) := by
  unfold callT at e
  replace e := bifN e; obtain ⟨hd, e⟩ := e
  simp only [Bool.or_eq_false_iff, Bool.not_eq_false'] at hd
  obtain ⟨hd1, hd2⟩ := hd
  let Q : Nat → Prop := fun pid => X.Q pid ∨ ∃ id ∈ idsOf args, ∃ m, X.π id = some (.blk pid m)
  replace e := decArgs_ok (Q := Q) r (fun _ h => .inl h) (fun id pid m hi hp => .inr ⟨id, hi, m, hp⟩) ha e; obtain ⟨y, e, hdx⟩ := e
  replace e := opt_some e; obtain ⟨h', hfr, e⟩ := e
  rw [hcs] at hfr
  cases hfr
  replace e := bd_some e; obtain ⟨z, hz, e⟩ := e
  obtain ⟨as, lP, hpl, hdp, hmet⟩ := purl_dom (fun _ h => .inl h) hd1 hdx
  obtain ⟨rP, up, hR, ⟨N, hN⟩, hres⟩ := TO f sg hf y z hz as hdp
  obtain ⟨q, hhb, hq, hfl⟩ := handBack_flat hd2 hcs hres
  have hfoot : Pi.foot tP X.h o.op = [] := by
    generalize o.op = op at hco
    cases op with
    | call c =>
      simp only [Pi.foot]
      cases hcal : c.callee with
      | builtin b => simp [callOp, hcal] at hco
      | _ => rfl
    | _ => cases hco
  refine ⟨_, q, (idP :: []) ++ lP, e, resP_val hq, fun a ha => ?_, N, fun F m hF hm => ?_⟩
  · simp only [List.cons_append, List.nil_append, List.mem_cons] at ha
    rcases ha with ha | ha
    · exact .inl ha
    · obtain ⟨_, es, ex, fz, hg⟩ := hmet a ha
      exact .inr (by rw [hg]; simp)
  · unfold Pi.drawnOp
    have blt : Nat.blt idP (idP + 1) = true := by simp
    simp only [hdr, blt, Bool.not_true, Bool.or_self, cond_false, hfoot]
    rw [call_any (h' := X.h) hco, hev]
    simp only [hpl]
    have hpl2 : purl (X.h.cut (idP :: lP)) ps = some (as, lP) := purl_low (h := X.h) (fun x hx => by rw [Pi.cut_get, if_pos ⟨by simp [hx], by omega⟩]) hpl
    unfold Pi.doCall
    simp only [cond_false, hpl2]
    rw [show ({ m := .lf, nx := 0 } : Hp) = hp0 from rfl, hN F m hF hm]
    simp only [hhb, Option.map_some, hfl, cond_true]
theorem drawnGoA_ok (TO : TabOK P tab) {base baseP b bP nt nx : Nat} (hb : b ≤ base) (hbP : bP ≤ baseP) (hnt : nt < 1048575) (hn : nx ≤ 1048575) {all : List Oper} (hall : ∀ o ∈ all, ∀ d, o.dst = some d → d < nt) {β : Type} {x : β} {len : Nat} :
    ∀ {ops : List Oper} {i : Nat} {ms : List Pi.Mk} {pa : List (Nat × Nat)} {pp : List (Nat × List Nat × List Nat)} {t : T V} {h : H} {K : T V → H → Option β} {X : Cx} {tP : T PV}, drawnGoA P tab base nt all i ops ms pa t h K = some x → RH X h nx → TR X t tP → FreshAt X base baseP i ops.length → base + i + ops.length ≤ nx → baseP + i + ops.length ≤ X.h.nx → len = i + ops.length → L2 (PastE X baseP i len) pa pp →
      ∃ t' h' Y tP', K t' h' = some x ∧ (∃ N, ∀ F n, N ≤ F → N ≤ n → Pi.drawnGo P (Pi.doN P (shOf tab) F n) baseP nt all i ops ms pp tP X.h = some (tP', Y.h)) ∧ RH Y h' nx ∧ Ext b bP X h Y h' ∧ TR Y t' tP' := by
  intro ops
  induction ops with
  | nil =>
    intro i ms pa pp t h K X tP e r ht _ _ _ _ _
    cases ms <;> exact ⟨t, h, X, tP, e, ⟨0, fun _ _ _ _ => rfl⟩, r, Ext.refl _ _ _ _, ht⟩
  | cons o ops ih =>
    intro i ms pa pp t h K X tP e r ht hfr hlen hlenP hl hpast
    cases ms with
    | nil => cases e
    | cons m ms =>
      simp only [List.length_cons] at hlen hlenP hfr hl
      have hfr0 := hfr i (Nat.le_refl _) (by omega)
      have w : Nw X nx (base + i) (baseP + i) := ⟨hfr0.1, by omega, hn, hfr0.2, by omega⟩
      unfold drawnGoA at e
      obtain ⟨t1, ht1, hcase⟩ := guardA_ok (nt := nt) ht hnt hall e
      -- behind the operation
      have go : ∀ {v : V} {p : PV} {h1 : H} {pa1 : List (Nat × Nat)} {pp1 : List (Nat × List Nat × List Nat)} {Y : Cx}, putT t1 nt o.dst v (fun t => drawnGoA P tab base nt all (i + 1) ops ms pa1 t h1 K) = some x → RH Y h1 nx → TR Y t1 tP → VR Y v p → St X h (base + i) (baseP + i) Y h1 → L2 (PastE Y baseP (i + 1) len) pa1 pp1 →
          (∀ {rr : T PV × Hp}, (∃ N, ∀ F n, N ≤ F → N ≤ n → (match o.dst with
            | some d => bif Nat.blt d nt then Pi.drawnGo P (Pi.doN P (shOf tab) F n) baseP nt all (i + 1) ops ms pp1 (T.put 20 tP d p) Y.h else none
            | none => Pi.drawnGo P (Pi.doN P (shOf tab) F n) baseP nt all (i + 1) ops ms pp1 tP Y.h) = some rr) → ∃ N, ∀ F n, N ≤ F → N ≤ n → Pi.drawnGo P (Pi.doN P (shOf tab) F n) baseP nt all i (o :: ops) (m :: ms) pp tP X.h = some rr) →
          ∃ t' h' Y tP', K t' h' = some x ∧ (∃ N, ∀ F n, N ≤ F → N ≤ n → Pi.drawnGo P (Pi.doN P (shOf tab) F n) baseP nt all i (o :: ops) (m :: ms) pp tP X.h = some (tP', Y.h)) ∧ RH Y h' nx ∧ Ext b bP X h Y h' ∧ TR Y t' tP' := by
        intro v p h1 pa1 pp1 Y e r1 htY hv s hp1 hP
        obtain ⟨t2, tP2, e2, ht2, hd, hnd⟩ := putT_ok htY hnt hv e
        have hfr1 : FreshAt Y base baseP (i + 1) ops.length := fun j h1 h2 => by
          obtain ⟨a1, a2⟩ := hfr j (by omega) (by omega)
          exact ⟨s.pin _ (by omega) a1, s.hpn _ (by omega) a2⟩
        obtain ⟨t', h', Z, tP', k1, ⟨N, k2⟩, k3, k4, k5⟩ := ih e2 r1 ht2 hfr1 (by omega) (by rw [s.nx]; omega) (by omega) hp1
        refine ⟨t', h', Z, tP', k1, hP ⟨N, fun F n hF hn => ?_⟩, k3, (s.ext (by omega) (by omega)).trans k4, k5⟩
        have := k2 F n hF hn
        cases hdst : o.dst with
        | none => simp only; rw [← hnd hdst]; exact this
        | some d =>
          obtain ⟨a1, a2⟩ := hd d hdst
          simp only [a1, cond_true]; rw [← a2]; exact this
      have pnext : ∀ {Y : Cx} {h1 : H}, St X h (base + i) (baseP + i) Y h1 → L2 (PastE Y baseP (i + 1) len) pa pp := fun s => hpast.mono fun _ _ k => k.next s
      -- a new entry
      have entry : ∀ {Y : Cx} {h1 : H} {c : Nat} {rd wr : List Nat}, St X h (base + i) (baseP + i) Y h1 → (∀ w ∈ wr, w ∈ rd) → (c ≤ 1 → wr = []) → (∀ q ∈ rd, q = baseP + i ∨ X.h.get q ≠ none) → (c = 0 → rd = [baseP + i] ∧ Y.h.get (baseP + i) = none) → L2 (PastE Y baseP (i + 1) len) ((i, c) :: pa) ((i, rd, wr) :: pp) := fun {Y h1 c rd wr} s h1 h2 h3 h4 => by
        refine .cons ⟨rfl, by show i < i + 1; omega, h1, h2, fun q hq k k1 k2 => ?_, h4⟩ (pnext s)
        rcases h3 q hq with hh | hh
        · omega
        · intro he
          obtain ⟨_, a2⟩ := hfr k (by omega) (by omega)
          rw [he] at hh; exact hh a2
      rcases hcase with ⟨e, hw⟩ | ⟨e, hw⟩
      · replace e := bifN e; obtain ⟨hdr, e⟩ := e
        have hdr : Pi.drawable o.op = true := by simpa using hdr
        have ev := evA_ok r w ht1 e
        generalize hop : Pi.evalOp P tP X.h (baseP + i) o = op at ev
        cases ev with
        | @val v h1 p hP1 Y e ok hv =>
          obtain ⟨y1, y2, y3⟩ := ok
          simp only at e
          replace e := bifY e; obtain ⟨hck, e⟩ := e
          simp only [Bool.and_eq_true] at hck
          have hc2 : clsOp o.op ≤ 2 := Nat.le_of_ble_eq_true hck.1
          obtain ⟨h2, wr, d1, d2, d3, d4, d5⟩ := (drawnOp_ok hdr hfr0.2 hop).1 p hP1 rfl hc2
          have g2 : ∀ q, h2.get q = Y.h.get q := fun q => by rw [d2, y1]
          have n2 : h2.nx = Y.h.nx := by rw [d3, y3.nx]
          have s2 := y3.with g2 n2
          have hfo := (cls_quiet hdr).2.2
          have hex : ∀ q ∈ (baseP + i) :: Pi.foot tP X.h o.op, q = baseP + i ∨ X.h.get q ≠ none := fun q hq => by
            rcases List.mem_cons.1 hq with hq | hq
            · exact .inl hq
            · exact .inr (foot_ok r ht1 (by omega) hdr hck.2.1 q hq)
          have hheap := ord_heap (rd := (baseP + i) :: Pi.foot tP X.h o.op) (wr := wr) (len := len) (by omega) d5 (fun hc => (d4 hc).1) (fun hc => by rw [hfo hc]) hex hpast hck.2.2
          refine go (p := p) e (y2.with g2 n2) (ht1.mono s2.up) (hv.mono (up_with g2)) s2 (entry s2 d5 (fun hc => (d4 hc).1) hex fun hc => ⟨by rw [hfo (.inl hc)], ?_⟩) ?_
          · show h2.get _ = none
            rw [d2, (d4 (by omega)).2]; exact hfr0.2
          · rintro rr ⟨N, hN⟩
            refine ⟨N, fun F n hF hn => ?_⟩
            unfold Pi.drawnGo
            simp only [hw, cond_true, d1, hheap]
            exact hN F n hF hn
        | @skip h1 hP1 Y e ok =>
          obtain ⟨y1, y2, y3⟩ := ok
          simp only at e
          replace e := bifY e; obtain ⟨hck, e⟩ := e
          simp only [Bool.and_eq_true] at hck
          have hc3 : clsOp o.op = 3 := Nat.eq_of_beq_eq_true hck.1
          obtain ⟨h2, wr, d1, d2, d3, d5⟩ := (drawnOp_ok hdr hfr0.2 hop).2 hP1 rfl hc3
          have g2 : ∀ q, h2.get q = Y.h.get q := fun q => by rw [d2, y1]
          have n2 : h2.nx = Y.h.nx := by rw [d3, y3.nx]
          have s2 := y3.with g2 n2
          have hex : ∀ q ∈ (baseP + i) :: Pi.foot tP X.h o.op, q = baseP + i ∨ X.h.get q ≠ none := fun q hq => by
            rcases List.mem_cons.1 hq with hq | hq
            · exact .inl hq
            · exact .inr (foot_ok r ht1 (by omega) hdr hck.2.1 q hq)
          have hheap := ord_heap (c := 3) (rd := (baseP + i) :: Pi.foot tP X.h o.op) (wr := wr) (len := len) (by omega) d5 (fun hc => by omega) (fun hc => by omega) hex hpast hck.2.2
          refine go (p := .tup []) e (y2.with g2 n2) (ht1.mono s2.up) (by simp only [VR]; exact ⟨[], rfl, .nil⟩) s2 (entry (c := 3) s2 d5 (fun hc => by omega) hex fun hc => by omega) ?_
          rintro rr ⟨N, hN⟩
          refine ⟨N, fun F n hF hn => ?_⟩
          unfold Pi.drawnGo
          simp only [hw, cond_true, d1, hheap]
          exact hN F n hF hn
        | @call f as ps e ha =>
          simp only at e
          split at e
          · rename_i sg hsg
            replace e := bifN e; obtain ⟨hck, e⟩ := e
            simp only [Bool.or_eq_false_iff, Bool.not_eq_false'] at hck
            obtain ⟨v, q, rd, e1, hv, hex, N0, hN0⟩ := drawnCall_ok TO r hsg hck.1 hdr hck.2.1 hop ha e
            have hheap := ord_heap (c := 1) (rd := rd) (wr := []) (len := len) (by omega) (fun _ hw => by cases hw) (fun _ => rfl) (fun hc => by omega) hex hpast hck.2.2
            have s2 := St.refl X h (base + i) (baseP + i)
            refine go (p := q) e1 r ht1 hv s2 (entry (c := 1) (wr := []) s2 (fun _ hw => by cases hw) (fun _ => rfl) hex fun hc => by omega) ?_
            rintro rr ⟨N, hN⟩
            refine ⟨max N0 N, fun F n hF hn => ?_⟩
            unfold Pi.drawnGo
            simp only [hw, cond_true, hN0 F n (by omega) (by omega), hheap]
            exact hN F n (by omega) (by omega)
          · cases e
        | yield e => cases e
        | pan e => cases e
        | rcv e => cases e
        | dfr e => cases e
      · have s2 := St.refl X h (base + i) (baseP + i)
        refine go (p := .tup []) e r ht1 (by simp only [VR]; exact ⟨[], rfl, .nil⟩) s2 (pnext s2) ?_
        rintro rr ⟨N, hN⟩
        refine ⟨N, fun F n hF hn => ?_⟩
        unfold Pi.drawnGo
        simp only [hw, cond_false]
        exact hN F n hF hn
theorem drawnA_ok (TO : TabOK P tab) : DrawnAOK P tab := by
  constructor
  intro β x nx ops fr h K e X fp r hn F hdst
  unfold drawnA at e
  replace e := opt_some e; obtain ⟨ms, hms, e⟩ := e
  have fresh : FreshAt (X.bump ops.length) nx X.h.nx 0 ops.length := fun j _ _ => ⟨by
    cases hp : X.π (nx + j) with
    | none => exact hp
    | some a => have := r.dom _ _ hp; omega, by rw [bump_get]; exact r.fresh _ (by omega)⟩
  have main := fun (b bP : Nat) (hb : b ≤ nx) (hbP : bP ≤ X.h.nx) => drawnGoA_ok TO (nx := nx + ops.length) hb hbP F.big hn hdst (len := ops.length) e (r.bump _) (F.t.mono (bump_up X _)) fresh (by omega) (by show X.h.nx + 0 + _ ≤ X.h.nx + ops.length; omega) (by omega) (pa := []) (pp := []) .nil
  obtain ⟨t', h', Y, tP', k1, ⟨N, k2⟩, k3, k4, k5⟩ := main nx X.h.nx (Nat.le_refl _) (Nat.le_refl _)
  have ext := (bump_ext X h ops.length nx X.h.nx).trans k4
  have up := ext.full r (Nat.le_refl _)
  have hnt : fp.nt = fr.nt := F.nt
  refine ⟨{ fr with t := t' }, h', Y, { fp with t := tP' }, Y.h, k1, ⟨N, fun FF n hF hn => ?_⟩, fun b bP hb hbP => ⟨rfl, k3, hn, Nat.le_add_right _ _, ext.le hb hbP⟩, ⟨k5, F.nt, F.big, F.ds.mono fun _ _ k => k.mono up, F.up.mono up, F.ro.mono up⟩⟩
  unfold Pi.drawn
  rw [hms, hnt]
  simp only [k2 FF n hF hn]
end
end Go.Proofs.YtopoaknleakdcaaGreat.Sv
namespace Go.Proofs.YtopoaknleakdcaaGreat.Sv
open Go.Proofs.YtopoaknleakdcaaGreat.Pi (PV T Hp Blk DF UM PE lget_eq lset_eq mapPur pur purl)
/-! Tables out of proved functions. -/
theorem shOf_mk (pu : FuncId → Bool) (L : List (FuncId × Sg)) : shOf (mkTab pu L) = fun f => !pu f := by
  funext f
  unfold shOf mkTab
  cases pu f <;> rfl
theorem PD.mk {P : Program} {pu : FuncId → Bool} {L L' : List (FuncId × Sg)} {tg : Pi.Tg} {up : Option UM} {args : List PV} {h : Hp} {r : Pi.Out × Option UM × Hp} (e : PD P (mkTab pu L) tg up args h r) : PD P (mkTab pu L') tg up args h r := by
  unfold PD at e ⊢
  rw [shOf_mk] at e ⊢
  exact e
theorem tab_nil (P : Program) (pu : FuncId → Bool) : TabOK P (mkTab pu []) := fun f sg e => by
  unfold mkTab at e
  replace e := bifT' e
  rcases e with ⟨_, e⟩ | ⟨_, e⟩ <;> cases e
/-- one function more -/
theorem tab_cons {P : Program} {pu : FuncId → Bool} {L : List (FuncId × Sg)} (TO : TabOK P (mkTab pu L)) {ann : Ann} {F n : Nat} {g : FuncId} {dom cod : List (Bool × Ty)} {fn : domDen dom → Option (domDen cod)} (h : ∀ x, runA P (mkTab pu L) ann F n g dom cod x = fn x) :
    TabOK P (mkTab pu ((g, ⟨dom, cod, fn⟩) :: L)) := fun f sg e x y hx as ha => by
  unfold mkTab at e
  replace e := bifT' e
  rcases e with ⟨hp, e⟩ | ⟨_, e⟩
  · simp only [Option.some.injEq] at e
    unfold tabGet at e
    replace e := bifT' e
    rcases e with ⟨hb, e⟩ | ⟨_, e⟩
    · cases e
      have := Nat.eq_of_beq_eq_true hb
      subst this
      obtain ⟨r, up, hR, k1, k2⟩ := runA_ok TO (drawnA_ok TO) ((h x).trans hx) ha
      exact ⟨r, up, hR, k1.mk, k2⟩
    · obtain ⟨r, up, hR, k1, k2⟩ := TO f sg (by unfold mkTab; rw [hp]; exact congrArg some e) x y hx as ha
      exact ⟨r, up, hR, k1.mk, k2⟩
  · cases e
end Go.Proofs.YtopoaknleakdcaaGreat.Sv
namespace Go.Proofs.YtopoaknleakdcaaGreat.Sv
open Go.Proofs.YtopoaknleakdcaaGreat.Pi (PV T Hp Blk DF UM PE Rep RepL mu0 Mem Sim)
open Go.RowKit
/-! From a function's answer to the machine's call. -/
theorem simHp0 {M : Mem} {w : World} (hM : ∀ a v, M a = some v → a.spot = none ∧ w.cell? a = some v) : Sim M mu0 hp0 w := by
  refine ⟨fun a v h => hM a v h, fun id b hb => ?_, fun id r hr => ?_, fun id id' r r' b b' hr => ?_, fun id r b a v hb => ?_⟩
  · rw [show hp0 = { m := .lf, nx := 0 } from rfl, Pi.Hp.get_lf] at hb; cases hb
  · simp [mu0] at hr
  · simp [mu0] at hr
  · rw [show hp0 = { m := .lf, nx := 0 } from rfl, Pi.Hp.get_lf] at hb; cases hb
/-- a law whose function answers true -/
theorem law_calls {P : Program} {tab : Tab} (TO : TabOK P tab) {ann : Ann} {F n : Nat} {f : FuncId} {dom : List (Bool × Ty)} {x : domDen dom} (e : runA P tab ann F n f dom [(false, .bool)] x = some true)
    {as : List PV} (ha : domP dom x as) {M : Mem} {w : World} (hM : ∀ a v, M a = some v → a.spot = none ∧ w.cell? a = some v) {vs : List Value} (hr : RepL M mu0 as vs) :
    Calls P f vs.toArray w fun e w' => e = .returned (.bool true) ∧ Grown w w' := by
  intro cs
  obtain ⟨r, up, hR, ⟨N, pd⟩, k⟩ := runA_ok TO (drawnA_ok TO) e ha
  have R := Pi.doN_ok (sh := shOf tab) (fun rec R => Pi.drawn_ok (P := P) (rec := rec) R) N N
  obtain ⟨M', μ', w', fr, s1, g1, st, hfn, x, hx, hl⟩ := R.nrm (pd N N (Nat.le_refl _) (Nat.le_refl _)) (simHp0 hM) hr cs
  have hrb : r = .bool true := by
    have : [r] = [PV.bool true] := k
    simpa using this
  subst hrb
  cases hx
  refine ⟨.returned (.bool true), w', fr, ⟨rfl, ⟨⟨g1.os, g1.output, fun i hi => ?_⟩, fun a => ?_, g1.size⟩⟩, st, hfn, hl⟩
  · have hk : w'.heap[i]? = w.heap[i]? := g1.keeps _ hi
    rw [hk]
    cases hx : w.heap[i]? with
    | none => trivial
    | some o => cases o <;> first | exact ⟨rfl, rfl, rfl, fun _ _ => rfl⟩ | exact .inr ⟨rfl, rfl⟩ | rfl
  · by_cases hlt : a.block < w.heap.size
    · simp only [World.frozen?, g1.keeps _ hlt]
    · have hn : w.heap[a.block]? = none := Array.getElem?_eq_none (by omega)
      simp only [World.frozen?, hn]
      split
      · rename_i arr ty lo hi hc
        rcases g1.nf _ _ _ _ hc with h0 | ⟨arr0, h0⟩
        · cases h0; simp
        · rw [hn] at h0; cases h0
      · rfl
end Go.Proofs.YtopoaknleakdcaaGreat.Sv
namespace Go.Proofs.YtopoaknleakdcaaGreat.Sv
open Go.Proofs.YtopoaknleakdcaaGreat.Pi (PV T Hp Blk DF UM PE)
/-! A function without parameters that the elder evaluator brings to true. -/
theorem pd_of {P : Program} {tab : Tab} {tg : Pi.Tg} {up : Option UM} {args : List PV} {h : Hp} {r : Pi.Out × Option UM × Hp} {F n : Nat} (e : Pi.doN P (shOf tab) F n tg up args h = some r) : PD P tab tg up args h r :=
  ⟨max F n, fun F' n' hF hn => Pi.doN_le (by omega) (by omega) _ _ _ _ _ e⟩
def closedT (P : Program) (sh : FuncId → Bool) (F n : Nat) (g : FuncId) : Bool := match Pi.doN P sh F n (.fn g) none [] hp0 with
  | some (.ret v, _, _) => (match v with
    | .bool b => b
    | _ => false)
  | _ => false
theorem closedT_ok {P : Program} {sh : FuncId → Bool} {F n : Nat} {g : FuncId} (e : closedT P sh F n g = true) : ∃ up h, Pi.doN P sh F n (.fn g) none [] hp0 = some (.ret (.bool true), up, h) := by
  unfold closedT at e
  split at e
  · rename_i v up h hd
    cases v with
    | bool b => simp only at e; subst e; exact ⟨up, h, hd⟩
    | _ => cases e
  · cases e
/-- one function more: a closed one -/
theorem tab_closed {P : Program} {pu : FuncId → Bool} {L : List (FuncId × Sg)} (TO : TabOK P (mkTab pu L)) {F n : Nat} {g : FuncId} (h : closedT P (fun f => !pu f) F n g = true) :
    TabOK P (mkTab pu ((g, ⟨[], [(false, .bool)], fun _ => some true⟩) :: L)) := fun f sg e x y hx as ha => by
  unfold mkTab at e
  replace e := bifT' e
  rcases e with ⟨hp, e⟩ | ⟨_, e⟩
  · simp only [Option.some.injEq] at e
    unfold tabGet at e
    replace e := bifT' e
    rcases e with ⟨hb, e⟩ | ⟨_, e⟩
    · cases e
      have := Nat.eq_of_beq_eq_true hb
      subst this
      obtain ⟨up, hR, hd⟩ := closedT_ok h
      cases hx
      have : as = [] := ha
      subst this
      exact ⟨.bool true, up, hR, pd_of (by rw [shOf_mk]; exact hd), rfl⟩
    · obtain ⟨r, up, hR, k1, k2⟩ := TO f sg (by unfold mkTab; rw [hp]; exact congrArg some e) x y hx as ha
      exact ⟨r, up, hR, k1.mk, k2⟩
  · cases e
end Go.Proofs.YtopoaknleakdcaaGreat.Sv
namespace Go.Proofs.YtopoaknleakdcaaGreat.Sv
/-! Laws of the words. -/
section
variable {α β γ : Type}
theorem br_p {c : Bool} {p : Prop} [Decidable p] (h : c = true ↔ p) (x y : Unit → Option β) : br c x y = if p then x () else y () := by
  unfold br
  by_cases hp : p
  · rw [h.2 hp, if_pos hp]; rfl
  · have : c = false := by cases c with
      | false => rfl
      | true => exact absurd (h.1 rfl) hp
    rw [this, if_neg hp]; rfl
theorem gd_p {c : Bool} {p : Prop} [Decidable p] (h : c = true ↔ p) (k : Unit → Option β) : gd c k = if p then k () else none := br_p h k fun _ => none
theorem br_lt (a b : Int) (x y : Unit → Option β) : br (ilt a b) x y = if a < b then x () else y () := br_p (by unfold ilt; simp) x y
theorem br_le (a b : Int) (x y : Unit → Option β) : br (ile a b) x y = if a ≤ b then x () else y () := br_p (by unfold ile; simp) x y
theorem br_gt (a b : Int) (x y : Unit → Option β) : br (igt a b) x y = if a > b then x () else y () := br_p (by unfold igt; simp) x y
theorem br_ge (a b : Int) (x y : Unit → Option β) : br (ige a b) x y = if a ≥ b then x () else y () := br_p (by unfold ige; simp) x y
theorem br_eq (a b : Int) (x y : Unit → Option β) : br (ieq a b) x y = if a = b then x () else y () := br_p (by unfold ieq; simp) x y
theorem br_ne (a b : Int) (x y : Unit → Option β) : br (ine a b) x y = if a = b then y () else x () := by
  rw [br_p (p := a ≠ b) (by unfold ine; simp)]
  by_cases h : a = b <;> simp [h]
theorem br_not (c : Bool) (x y : Unit → Option β) : br (bnot c) x y = br c y x := by unfold br bnot; cases c <;> rfl
theorem br_b (c : Bool) (x y : Unit → Option β) : br c x y = if c = true then x () else y () := by unfold br; cases c <;> rfl
theorem br_neq (a b : Nat) (x y : Unit → Option β) : br (neq a b) x y = if a = b then x () else y () := br_p (by unfold neq; simp) x y
theorem br_nlt (a b : Nat) (x y : Unit → Option β) : br (nlt a b) x y = if a < b then x () else y () := br_p (by unfold nlt; exact iff_of_eq Nat.blt_eq) x y
theorem br_true (x y : Unit → Option β) : br true x y = x () := rfl
theorem br_false (x y : Unit → Option β) : br false x y = y () := rfl
theorem bd_val (x : α) (k : α → Option β) : bd (some x) k = k x := rfl
theorem gd_neq (a b : Nat) (k : Unit → Option β) : gd (neq a b) k = if a = b then k () else none := gd_p (by unfold neq; simp) k
theorem gd_nle (a b : Nat) (k : Unit → Option β) : gd (nle a b) k = if a ≤ b then k () else none := gd_p (by unfold nle; simp) k
theorem gd_nlt (a b : Nat) (k : Unit → Option β) : gd (nlt a b) k = if a < b then k () else none := gd_p (by unfold nlt; exact iff_of_eq Nat.blt_eq) k
theorem nat_pos {n : Int} (h : 0 ≤ n) (k : Nat → Option β) : nat n k = k n.toNat := by unfold nat; simp [h]
theorem ix_val {l : List α} {i : Nat} {x : α} (h : l[i]? = some x) (k : α → Option β) : ix l i k = k x := by unfold ix; rw [h]
theorem lpN_inv {f : α → Option (LR α β)} {Inv : α → Prop} {Q : β → Prop} {m : α → Nat}
    (step : ∀ s, Inv s → (∃ s', f s = some (.nx s') ∧ Inv s' ∧ m s' < m s) ∨ (∃ x, f s = some (.dn x) ∧ Q x)) :
    ∀ (n : Nat) (s : α), Inv s → m s < n → ∃ x, loopN n f s = some x ∧ Q x
  | 0, s, _, h => by omega
  | n + 1, s, hi, h => by
    unfold loopN
    rcases step s hi with ⟨s', e, hi', hm⟩ | ⟨x, e, hx⟩
    · rw [e]; exact lpN_inv step n s' hi' (by omega)
    · rw [e]; exact ⟨x, rfl, hx⟩
/-- a loop with an invariant and a measure -/
theorem loop_inv {f : α → Option (LR α β)} (Inv : α → Prop) (Q : β → Prop) (m : α → Nat) {s : α} (hs : Inv s) (hm : m s < 18446744073709551616)
    (step : ∀ s, Inv s → (∃ s', f s = some (.nx s') ∧ Inv s' ∧ m s' < m s) ∨ (∃ x, f s = some (.dn x) ∧ Q x)) : ∃ x, loop f s = some x ∧ Q x :=
  lpN_inv step _ s hs hm
theorem iadd_in {a b : Int} (h : -9223372036854775808 ≤ a + b ∧ a + b ≤ 9223372036854775807) : iadd .i64 a b = a + b := IntWalk.i64_in _ h
theorem isub_in {a b : Int} (h : -9223372036854775808 ≤ a - b ∧ a - b ≤ 9223372036854775807) : isub .i64 a b = a - b := IntWalk.i64_in _ h
theorem imul_in {a b : Int} (h : -9223372036854775808 ≤ a * b ∧ a * b ≤ 9223372036854775807) : imul .i64 a b = a * b := IntWalk.i64_in _ h
theorem ishl1_in {a : Int} (h : -9223372036854775808 ≤ 2 * a ∧ 2 * a ≤ 9223372036854775807) : ishl .i64 a 1 = 2 * a := by
  have : ishl .i64 a 1 = IntKind.i64.wrap (a * 2) := rfl
  rw [this, Int.mul_comm, IntWalk.i64_in _ h]
end
end Go.Proofs.YtopoaknleakdcaaGreat.Sv
