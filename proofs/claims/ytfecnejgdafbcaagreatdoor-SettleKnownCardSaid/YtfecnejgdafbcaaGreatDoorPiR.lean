/- A part of the evaluator of the model's code and of its soundness, for any program. No condition. -/
import Derived.Test.YtfecnejgdafbcaaGreatDoorPiQ
namespace Go.Proofs.YtfecnejgdafbcaaGreatDoor.Pi
set_option linter.all false
variable [Gl]
section
variable {P : Program} {M : Mem} {μ : Mu} {h : Hp} {w : World} {t : T PV} {nt : Nat} {a : Act}

theorem e1_ok (gl : GlOK M) (ht : TmpsRep M μ t nt a.tmps) {x : Operand} {k : PV → Option R} {r : R} (e : e1 t x k = some r) : ∃ p, k p = some r ∧ Rep M μ p (a.eval x) := by
  unfold e1 at e
  split at e
  · rename_i p hp; exact ⟨p, e, evs_ok gl ht hp⟩
  · cases e
theorem e2_ok (gl : GlOK M) (ht : TmpsRep M μ t nt a.tmps) {x y : Operand} {k : PV → PV → Option R} {r : R} (e : e2 t x y k = some r) : ∃ p q, k p q = some r ∧ Rep M μ p (a.eval x) ∧ Rep M μ q (a.eval y) := by
  unfold e2 at e
  split at e
  · rename_i p q hp hq; exact ⟨p, q, e, evs_ok gl ht hp, evs_ok gl ht hq⟩
  · cases e
theorem e3_ok (gl : GlOK M) (ht : TmpsRep M μ t nt a.tmps) {x y z : Operand} {k : PV → PV → PV → Option R} {r : R} (e : e3 t x y z k = some r) : ∃ p q s, k p q s = some r ∧ Rep M μ p (a.eval x) ∧ Rep M μ q (a.eval y) ∧ Rep M μ s (a.eval z) := by
  unfold e3 at e
  split at e
  · rename_i p q s hp hq hs; exact ⟨p, q, s, e, evs_ok gl ht hp, evs_ok gl ht hq, evs_ok gl ht hs⟩
  · cases e

theorem box_ok (s : Sim M μ h w) {id : Nat} {el : TypeId} {p : PV} {x : Value} (hx : Rep M μ p x) {r : R} (e : evBox h id p = some r) :
    Says P M μ w ((do pure (.value (← Instr.box el x)) : Sem Next).run P w) r := by
  unfold evBox at e
  split at e
  · cases e
  · rename_i hnt
    obtain ⟨h', hn, rfl⟩ := mapOpt e
    obtain ⟨hr, h1⟩ := hx.cells (fun cs hc => hnt cs hc)
    have := newBox_ok (P := P) s (ty := el) hr (fun i v hv => h1 i v hv) hn
    simpa [Instr.box, newVar] using this
theorem alloc_ok (s : Sim M μ h w) {id : Nat} {el : TypeId} {r : R} (e : evAlloc P h id el = some r) :
    Says P M μ w ((do pure (.value (← Instr.alloc el true (.tuple #[]))) : Sem Next).run P w) r := by
  unfold evAlloc at e
  split at e
  · rename_i cs hz
    obtain ⟨h', hn, rfl⟩ := mapOpt e
    obtain ⟨zv, i, hi, hiz, hrun, hr, h1⟩ := zeroCells_ok hz M μ w
    have := newBox_ok (P := P) s (ty := el) hr (oneAll h1) hn
    simpa [Instr.alloc, hrun, newVar] using this
  · cases e
theorem newMap_ok (s : Sim M μ h w) {id : Nat} {ty : TypeId} {r : R} (e : (h.new id (.mp [])).map (fun h => R.val (.mp id) h) = some r) :
    Says P M μ w ((do pure (.value (← Instr.makeMap ty none)) : Sem Next).run P w) r := by
  obtain ⟨h', hn, rfl⟩ := mapOpt e
  obtain ⟨hget, hset, _⟩ := Hp.get_new hn
  have hμ : μ id = none := by
    cases hm : μ id with
    | none => rfl
    | some x => exact absurd hget (s.use id x hm).1
  have hS := s.fresh (w' := w.alloc (.map #[] 0)) (r := ⟨w.heap.size, 0, 0, 0⟩) (o := .map #[] 0) hget hset rfl rfl
    ⟨#[], 0, rfl, rfl, fun i k v e he => by simp at he⟩
  refine ⟨M, upd μ id ⟨w.heap.size, 0, 0, 0⟩, w.alloc (.map #[] 0), .map (some w.heap.size), ?_, hS.1, Grow.newBlk hμ rfl rfl rfl rfl rfl (fun _ _ _ h => by cases h), ?_⟩
  · simp [Instr.makeMap]
  · exact .mp _ _ ⟨w.heap.size, 0, 0, 0⟩ (by simp [upd])
theorem pick_ok (s : Sim M μ h w) {c p q : PV} {vc x y : Value} (hc : Rep M μ c vc) (hx : Rep M μ p x) (hy : Rep M μ q y) {r : R} (e : evPick h c p q = some r) :
    Says P M μ w ((do pure (.value (if ← asBool vc then x else y)) : Sem Next).run P w) r := by
  unfold evPick at e
  split at e
  · cases e; cases hc; exact ⟨M, μ, w, x, by simp [asBool], s, .refl _ _ _, hx⟩
  · cases e; cases hc; exact ⟨M, μ, w, y, by simp [asBool], s, .refl _ _ _, hy⟩
  · cases e
theorem makeFunc_ok (s : Sim M μ h w) {f : Fn} {p q : List PV} {x y : Array Value} (hp : RepL M μ p x.toList) (hq : RepL M μ q y.toList) {r : R} (e : evMakeFunc h f p q = some r) :
    Says P M μ w ((do pure (.value (← Instr.makeFunc f x y)) : Sem Next).run P w) r := by
  unfold evMakeFunc at e
  split at e
  · cases e
  · rename_i hny
    cases e
    exact says_val s (x := .func f x y) (by simp [Instr.makeFunc]) (.fn _ _ _ _ _ _ (fun l hl => hny l hl) (by simpa using hp.1) (by simpa using hq.1) (fun i c v a b => hp.2 i c v a (by simpa using b)) (fun i c v a b => hq.2 i c v a (by simpa using b)))
theorem panic_ok {p : PV} {x : Value} (hx : Rep M μ p x) {r : R} (e : evPanic p = some r) : Says P M μ w ((do pure (.value (← Instr.panic x)) : Sem Next).run P w) r := by
  unfold evPanic at e
  split at e
  · cases e
    cases hx with
    | ifc _ _ _ xv hxv => exact ⟨.iface _ xv, by simp [Instr.panic, goPanic], .ifc _ _ _ _ hxv⟩
  · cases e

theorem evalOp_ok (s : Sim M μ h w) (ht : TmpsRep M μ t nt a.tmps) {id : Nat} {o : Oper} {r : R} (e : evalOp P t h id o = some r) : Says P M μ w ((execOp a.eval o).run P w) r := by
  unfold evalOp at e
  unfold execOp
  split at e
  · rename_i x ho
    rw [ho]
    obtain ⟨v, hv, rfl⟩ := vl_ok e
    exact ⟨M, μ, w, _, rfl, s, .refl _ _ _, evs_ok s.glb ht hv⟩
  · rename_i x ho
    rw [ho]
    obtain ⟨v, hv, rfl⟩ := vl_ok e
    exact ⟨M, μ, w, _, rfl, s, .refl _ _ _, evs_ok s.glb ht hv⟩
  · rename_i c x y ho
    rw [ho]
    obtain ⟨p, q, u, e, h1, h2, h3⟩ := e3_ok s.glb ht e
    exact pick_ok s h1 h2 h3 e
  · rename_i el ho
    rw [ho]
    exact alloc_ok s e
  · rename_i el x ho
    rw [ho]
    obtain ⟨p, e, h1⟩ := e1_ok s.glb ht e
    exact box_ok s h1 e
  · rename_i ty parts ho
    rw [ho]
    split at e
    · rename_i ps hps
      refine build_ok s ?_ e
      simpa using partsOf_ok s.glb ht hps
    · cases e
  · rename_i ty len parts ho
    rw [ho]
    split at e
    · rename_i ps hps
      refine buildSlice_ok s ?_ e
      simpa using partsOf_ok s.glb ht hps
    · cases e
  · rename_i ty x ho
    rw [ho]
    obtain ⟨p, e, h1⟩ := e1_ok s.glb ht e
    exact load_ok s h1 e
  · rename_i ty x y ho
    rw [ho]
    obtain ⟨p, q, e, h1, h2⟩ := e2_ok s.glb ht e
    exact store_ok s h1 h2 e
  · rename_i x ho
    rw [ho]
    obtain ⟨p, e, h1⟩ := e1_ok s.glb ht e
    exact nil_ok s h1 e
  · rename_i op ty x y yt ho
    rw [ho]
    obtain ⟨p, q, e, h1, h2⟩ := e2_ok s.glb ht e
    exact bin_ok s h1 h2 e
  · rename_i op ty x ho
    rw [ho]
    obtain ⟨p, e, h1⟩ := e1_ok s.glb ht e
    exact un_ok s h1 e
  · rename_i src dst x ho
    rw [ho]
    obtain ⟨p, e, h1⟩ := e1_ok s.glb ht e
    exact convert_ok s h1 e
  · rename_i ty x ho
    rw [ho]
    obtain ⟨p, e, h1⟩ := e1_ok s.glb ht e
    exact ifc_ok s h1 e
  · rename_i f first cap ho
    rw [ho]
    split at e
    · rename_i p q hp hq
      exact makeFunc_ok s (by simpa using evl_ok s.glb ht hp) (by simpa using evl_ok s.glb ht hq) e
    · cases e
  · rename_i ty ho
    rw [ho]
    exact newMap_ok s e
  · rename_i ty l c ho
    rw [ho]
    obtain ⟨p, q, e, h1, h2⟩ := e2_ok s.glb ht e
    exact make_ok s h1 h2 e
  · rename_i ty x lo hi mx ho
    rw [ho]
    split at e
    · rename_i l u m hl hu hm
      obtain ⟨p, e, h1⟩ := e1_ok s.glb ht e
      exact slice_ok s h1 (evo_ok s.glb ht hl) (evo_ok s.glb ht hu) (evo_ok s.glb ht hm) e
    · cases e
  · rename_i sty x f ho
    rw [ho]
    obtain ⟨p, e, h1⟩ := e1_ok s.glb ht e
    exact fieldAddr_ok s h1 e
  · rename_i ty x f ho
    rw [ho]
    obtain ⟨p, e, h1⟩ := e1_ok s.glb ht e
    exact field_ok s h1 e
  · rename_i ty x i ho
    rw [ho]
    obtain ⟨p, q, e, h1, h2⟩ := e2_ok s.glb ht e
    exact indexAddr_ok s h1 h2 e
  · rename_i ty x i ho
    rw [ho]
    obtain ⟨p, q, e, h1, h2⟩ := e2_ok s.glb ht e
    exact index_ok s h1 h2 e
  · rename_i ty x k ok ho
    rw [ho]
    obtain ⟨p, q, e, h1, h2⟩ := e2_ok s.glb ht e
    exact lookup_ok s h1 h2 e
  · rename_i ty x k v ho
    rw [ho]
    obtain ⟨p, q, u, e, h1, h2, h3⟩ := e3_ok s.glb ht e
    exact mapUpdate_ok s h1 h2 h3 e
  · rename_i ty x k v ho
    rw [ho]
    obtain ⟨p, q, u, e, h1, h2, h3⟩ := e3_ok s.glb ht e
    exact mapUpdate_ok s h1 h2 h3 e
  · rename_i x xt ty ok ho
    rw [ho]
    obtain ⟨p, e, h1⟩ := e1_ok s.glb ht e
    exact assert_ok s h1 e
  · rename_i x i ho
    rw [ho]
    obtain ⟨p, e, h1⟩ := e1_ok s.glb ht e
    exact extract_ok s h1 e
  · rename_i x ho
    rw [ho]
    obtain ⟨p, e, h1⟩ := e1_ok s.glb ht e
    exact panic_ok h1 e
  · rename_i c ho
    rw [ho]
    split at e
    · rename_i args hargs
      have ha : RepL M μ args (c.args.toList.map a.eval) := evl_ok s.glb ht hargs
      have harr : c.args.map a.eval = (c.args.toList.map a.eval).toArray := by rw [← Array.toList_map, Array.toArray_toList]
      split at e
      · rename_i b hcal
        simp only [resolve, hcal, Sem.run_bind, Sem.run_pure, Result.andThen, invoke]
        rw [harr]
        exact builtin_ok s ha e
      · rename_i f hcal
        obtain ⟨p, e, h1⟩ := e1_ok s.glb ht e
        unfold evCallV at e
        split at e
        · rename_i fn x y
          generalize h1v : a.eval f = v at h1
          cases h1 with
          | fn _ _ _ _ va vb hf hla hlb h2 h3 =>
            obtain ⟨k1, g, as, k2⟩ := invoke_ok (w := w) (vf := va.toList) (vc := vb.toList) ⟨by simpa using hla, fun i c v p q => h2 i c v p (by simpa using q)⟩ ⟨by simpa using hlb, fun i c v p q => h3 i c v p (by simpa using q)⟩ ha e
            have hcat : (va.toList ++ c.args.toList.map a.eval).toArray = va ++ (c.args.toList.map a.eval).toArray := by apply Array.ext'; simp
            rw [hcat] at k1
            simpa [resolve, hcal, Deferred.ofValue, h1v, harr] using k1
        · rename_i l
          cases e
          generalize h1v : a.eval f = v at h1
          cases h1 with
          | yl _ _ rb hr =>
            refine ⟨c.args.toList.map a.eval, rb, hr, ?_, ha⟩
            simp [resolve, hcal, Deferred.ofValue, h1v, invoke, harr]
        · cases e
      · rename_i recv name hcal
        obtain ⟨p, e, h1⟩ := e1_ok s.glb ht e
        obtain ⟨k1, _⟩ := invoke_ok (w := w) (vf := [a.eval recv]) (vc := []) (RepL.cons h1 (RepL.nil _ _)) (RepL.nil _ _) ha e
        simpa [resolve, hcal, harr] using k1
    · cases e
  · rename_i c ho
    rw [ho]
    split at e
    · rename_i args hargs
      have ha : RepL M μ args (c.args.toList.map a.eval) := evl_ok s.glb ht hargs
      have harr : c.args.map a.eval = (c.args.toList.map a.eval).toArray := by rw [← Array.toList_map, Array.toArray_toList]
      split at e
      · rename_i b hcal
        cases e
        have hres : ∃ cs, (resolve a.eval c o.type).run P w = .ok { target := .builtin b c.argTypes o.type cs, args := c.args.map a.eval } w := ⟨_, by simp only [resolve, hcal]; rfl⟩
        obtain ⟨cs, hres⟩ := hres
        exact ⟨{ target := .builtin b c.argTypes o.type cs, args := c.args.map a.eval }, by simp only [Sem.run_bind, hres, Result.andThen, Sem.run_pure], cs, _, rfl, harr, ha⟩
      · rename_i f hcal
        obtain ⟨p, e, h1⟩ := e1_ok s.glb ht e
        split at e
        · rename_i g x y
          cases e
          generalize h1v : a.eval f = v at h1
          cases h1 with
          | fn _ _ _ _ va vb hf hla hlb h2 h3 =>
            exact ⟨{ target := .fn (.func g) vb, args := va ++ c.args.map a.eval }, by simp [resolve, hcal, Deferred.ofValue, h1v], _, _, _, va.toList, vb.toList, c.args.toList.map a.eval, rfl, hf, by simp, by simp [harr],
              ⟨by simpa using hla, fun i c v p q => h2 i c v p (by simpa using q)⟩, ⟨by simpa using hlb, fun i c v p q => h3 i c v p (by simpa using q)⟩, ha⟩
        · cases e
      · cases e
    · cases e
  · cases e
end
end Go.Proofs.YtfecnejgdafbcaaGreatDoor.Pi
