/- A part of the evaluator of the model's code and of its soundness, for any program. No condition. -/
import Derived.Test.YtfecnejgdafbcaaGreatDoorPiO
namespace Go.Proofs.YtfecnejgdafbcaaGreatDoor.Pi
set_option linter.all false
variable [Gl]
section
variable {P : Program} {M : Mem} {μ : Mu} {h : Hp} {w : World}

theorem callFunc_run {g : Nat} {fn : Func} {vs : Array Value} (hg : P.funcs[g]? = some fn) (hc : (fn.body.isSome && !(fn.name == "runtime.NumGoroutine")) = true) :
    (callFunc g vs).run P w = .ok (.enter g vs) w ∧ ∃ c, fn.body = some c := by
  simp only [Bool.and_eq_true, Bool.not_eq_true'] at hc
  obtain ⟨c, hb⟩ := Option.isSome_iff_exists.1 hc.1
  refine ⟨?_, c, hb⟩
  simp only [callFunc, Sem.run_bind, run_program, Result.andThen, hg, hc.2, hb]
  simp
theorem callIf {g : Nat} {args : List PV} {r : R} (e : (match P.funcs[g]? with
    | some fn => bif fn.body.isSome && !(fn.name == "runtime.NumGoroutine") then some (R.call g args) else none
    | none => none) = some r) : r = .call g args ∧ ∃ fn, P.funcs[g]? = some fn ∧ (fn.body.isSome && !(fn.name == "runtime.NumGoroutine")) = true := by
  split at e
  · rename_i fn hfn
    replace e := bifT e; obtain ⟨hc, e⟩ := e
    cases e; exact ⟨rfl, fn, hfn, hc⟩
  · cases e
theorem callIf2 {g : Nat} {args : List PV} {r : R} (e : (bif (match P.funcs[g]? with | some fn => fn.body.isSome && !(fn.name == "runtime.NumGoroutine") | none => false) then some (R.call g args) else none) = some r) :
    r = .call g args ∧ ∃ fn, P.funcs[g]? = some fn ∧ (fn.body.isSome && !(fn.name == "runtime.NumGoroutine")) = true := by
  replace e := bifT e; obtain ⟨hc, e⟩ := e
  split at hc
  · rename_i fn hfn; cases e; exact ⟨rfl, fn, hfn, hc⟩
  · cases hc

theorem invoke_ok {f : Fn} {first cap args : List PV} {vf vc va : List Value} (hf : RepL M μ first vf) (hc : RepL M μ cap vc) (ha : RepL M μ args va) {r : R} (e : pinvoke P f first cap args = some r) :
    Says P M μ w ((invoke (.fn f vc.toArray) (vf ++ va).toArray).run P w) r ∧ ∃ g as, r = .call g as := by
  unfold pinvoke at e
  split at e
  · rename_i g
    obtain ⟨rfl, fn, hfn, hok⟩ := callIf e
    obtain ⟨h1, c, h2⟩ := callFunc_run (w := w) (vs := ((vf ++ va) ++ vc).toArray) hfn hok
    refine ⟨⟨(vf ++ va) ++ vc, ?_, (hf.append ha).append hc, fn, c, hfn, h2⟩, _, _, rfl⟩
    simpa [invoke] using h1
  · rename_i name
    split at e
    · rename_i t v rest heq
      have hall := hf.append ha
      rw [heq] at hall
      obtain ⟨x, ws, hws, hx, hrest⟩ := hall.cons_inv
      cases hx with
      | ifc _ _ _ xv hxv =>
      split at e
      · rename_i i hi
        split at e
        · rename_i m hm
          have meth : ∀ g pr, m.path.isEmpty = true → m.func = some (g, pr) → (receiverAt t (.val xv) pr (some ((name.splitOn ".").getLastD name))).run P w = .ok xv w →
              (invoke (.fn (.method name) vc.toArray) (vf ++ va).toArray).run P w = (callFunc g (xv :: ws).toArray).run P w := by
            intro g pr hpath hfun hrec
            rw [hws]
            have hp2 : m.path.toList = [] := by simpa [Array.isEmpty_iff] using hpath
            have hm1 : (method ((P.types.size + Made.depth)) t xv name).run P w = .ok (g, xv) w := by
              have hpos : 0 < Made.depth := by decide
              have hne : P.types.size + Made.depth = (P.types.size + Made.depth - 1) + 1 := by omega
              rw [hne]
              unfold method
              simp only [Sem.run_bind, info_ok hi, Result.andThen, hm, hp2, follow, Sem.run_pure, hfun, hpath, if_true, hrec]
            simp [invoke, callMethod, hm1]
          split at e
          · rename_i g el hpath hfun hu
            obtain ⟨rfl, fn, hfn, hok⟩ := callIf2 e
            obtain ⟨h1, c, h2⟩ := callFunc_run (w := w) (vs := (xv :: ws).toArray) hfn hok
            refine ⟨⟨xv :: ws, ?_, RepL.cons hxv hrest, fn, c, hfn, h2⟩, _, _, rfl⟩
            rw [meth g true hpath hfun (by simp [receiverAt, und_ok hu, Place.get]), h1]
          · cases e
          · rename_i g d hnp hpath hfun hu
            obtain ⟨rfl, fn, hfn, hok⟩ := callIf2 e
            obtain ⟨h1, c, h2⟩ := callFunc_run (w := w) (vs := (xv :: ws).toArray) hfn hok
            refine ⟨⟨xv :: ws, ?_, RepL.cons hxv hrest, fn, c, hfn, h2⟩, _, _, rfl⟩
            rw [meth g false hpath hfun ?_, h1]
            have : ∀ el, d ≠ .pointer el := by
              intro el hd; subst hd
              first | exact hnp _ _ hfun hu | exact hnp _ _ rfl rfl | (simp_all)
            cases d <;> first | exact absurd rfl (this _) | simp [receiverAt, und_ok hu, Place.get]
          · cases e
        · cases e
      · cases e
    · cases e
  · cases e
end
end Go.Proofs.YtfecnejgdafbcaaGreatDoor.Pi
