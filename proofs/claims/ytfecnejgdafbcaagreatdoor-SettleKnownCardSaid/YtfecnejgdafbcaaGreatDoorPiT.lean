/- A part of the evaluator of the model's code and of its soundness, for any program. No condition. -/
import Derived.Test.YtfecnejgdafbcaaGreatDoorPiS
import Derived.AtR
import Derived.Recover
import Derived.RangeFuncIn
namespace Go.Proofs.YtfecnejgdafbcaaGreatDoor.Pi
set_option linter.all false
variable [Gl]
/-! One step of the machine, in a frame of any kind. -/
section
variable {P : Program} {b : Frame} {a : Act} {k : List Item} {cs : List Frame} {w w' : World} {ops : Array Oper} {i : Nat} {rest : List Nat} {o : Oper}

theorem fin_atR (ho : ops[i]? = some o) (v : Value) : (b.atR a (.inRegion ops (i :: rest) :: k)).finish v = b.atR (a.put o.dst v) (.inRegion ops rest :: k) := by
  rw [Frame.finish_atR, ho]; rfl
theorem stepP_value (ho : ops[i]? = some o) (hw : Region.wanted o (yielded ops a.tmps) = true) {v : Value} (hr : (o.semAt b.roundOf a.eval).run P w = .ok (.value v) w') :
    step P (lone (b.atR a (.inRegion ops (i :: rest) :: k)) cs w) = .next (lone (b.atR (a.put o.dst v) (.inRegion ops rest :: k)) cs w') :=
  step_lone_go (by rw [stepGR_op ho hw, ← fin_atR ho]; simp [stepG.apply, hr])
theorem stepP_skip (ho : ops[i]? = some o) (hw : Region.wanted o (yielded ops a.tmps) = true) (hr : (o.semAt b.roundOf a.eval).run P w = .ok .skip w') :
    step P (lone (b.atR a (.inRegion ops (i :: rest) :: k)) cs w) = .next (lone (b.atR (a.put o.dst undef) (.inRegion ops rest :: k)) cs w') :=
  step_lone_go (by rw [stepGR_op ho hw, ← fin_atR ho]; simp [stepG.apply, hr])
theorem stepP_defer (ho : ops[i]? = some o) (hw : Region.wanted o (yielded ops a.tmps) = true) {d : Deferred} (hr : (o.semAt b.roundOf a.eval).run P w = .ok (.defer d) w') :
    step P (lone (b.atR a (.inRegion ops (i :: rest) :: k)) cs w) = .next (lone (b.atR ({ a with defers := d :: a.defers }.put o.dst undef) (.inRegion ops rest :: k)) cs w') := by
  refine step_lone_go ?_
  have := fin_atR (b := b) (a := { a with defers := d :: a.defers }) (k := k) (rest := rest) ho undef
  rw [stepGR_op ho hw]
  simp only [stepG.apply, Sem.runT_eq, hr, GStep.bare_after]
  exact congrArg (fun fr => GStep.go { frame := fr, callers := cs, status := .running, dying := none } w') this
theorem stepP_enter (ho : ops[i]? = some o) (hw : Region.wanted o (yielded ops a.tmps) = true) {f : FuncId} {args : Array Value} (hr : (o.semAt b.roundOf a.eval).run P w = .ok (.enter f args) w') :
    step P (lone (b.atR a (.inRegion ops (i :: rest) :: k)) cs w) = .next (lone (Frame.enter P f args .normal) (b.atR a (.inRegion ops (i :: rest) :: k) :: cs) w') :=
  step_lone_go (by rw [stepGR_op ho hw]; simp [stepG.apply, hr, Frame.atR])
theorem stepP_round (ho : ops[i]? = some o) (hw : Region.wanted o (yielded ops a.tmps) = true) {l : Nat} {f : FuncId} {tmps : Array Value} {asg body : Code} (hr : (o.semAt b.roundOf a.eval).run P w = .ok (.round l f tmps asg body) w') :
    step P (lone (b.atR a (.inRegion ops (i :: rest) :: k)) cs w) = .next (lone (Frame.round l f tmps asg body .normal) (b.atR a (.inRegion ops (i :: rest) :: k) :: cs) w') :=
  step_lone_go (by rw [stepGR_op ho hw]; simp [stepG.apply, hr, Frame.atR])
theorem stepP_panic (ho : ops[i]? = some o) (hw : Region.wanted o (yielded ops a.tmps) = true) {v : Value} (hr : (o.semAt b.roundOf a.eval).run P w = .halt (.panic v) w') :
    step P (lone (b.atR a (.inRegion ops (i :: rest) :: k)) cs w) = .next (lone { b.atR a (.inRegion ops (i :: rest) :: k) with mode := .panicking [{ v, recovered := false }] } cs w') :=
  step_lone_go (by rw [stepGR_op ho hw, ← Frame.raise_atR]; simp [stepG.apply, hr])
theorem stepP_recover (ho : ops[i]? = some o) (hw : Region.wanted o (yielded ops a.tmps) = true) (hro : b.roundOf = none) (hr : (o.semAt b.roundOf a.eval).run P w = .ok .recover w') :
    step P (lone (b.atR a (.inRegion ops (i :: rest) :: k)) cs w) = match tryRecover (b.atR a (.inRegion ops (i :: rest) :: k)) cs with
      | some (v, cs') => .next (lone (b.atR (a.put o.dst v) (.inRegion ops rest :: k)) cs' w')
      | none => .next (lone (b.atR (a.put o.dst .nilIface) (.inRegion ops rest :: k)) cs w') := by
  cases ht : tryRecover (b.atR a (.inRegion ops (i :: rest) :: k)) cs with
  | some x =>
    obtain ⟨v, cs'⟩ := x
    refine step_lone_go ?_
    have hro2 : (b.atR a (.inRegion ops (i :: rest) :: k)).roundOf = none := hro
    rw [stepGR_op ho hw, ← fin_atR ho]
    simp [stepG.apply, hr, hro2, ht]
  | none =>
    refine step_lone_go ?_
    have hro2 : (b.atR a (.inRegion ops (i :: rest) :: k)).roundOf = none := hro
    rw [stepGR_op ho hw, ← fin_atR ho]
    simp [stepG.apply, hr, hro2, ht]
theorem stepP_scope {c : Code} : step P (lone (b.atR a (.code (.scope c) :: k)) cs w) = .next (lone (b.atR a (.code c :: .inScope c :: k)) cs w) :=
  step_lone_go (by simp [stepG, stepG.exec, Frame.atR])
theorem stepP_inScope {c : Code} : step P (lone (b.atR a (.inScope c :: k)) cs w) = .next (lone (b.atR a k) cs w) :=
  step_lone_go (by simp [stepG, stepG.exec, Frame.atR])
end
section
variable {P : Program}
/-- a frame on its way out takes the rounds' deferred calls -/
theorem step_collect {fr : Frame} {cs : List Frame} {w w' : World} {bl : Nat} {ds calls : List Deferred} {ar : Array Value} (hm : fr.mode ≠ .run) (hd : fr.defers = { target := .collected bl, args := ar } :: ds)
    (hr : (Instr.takeDeferred bl).run P w = .ok calls w') : step P (lone fr cs w) = .next (lone { fr with defers := calls ++ ds } cs w') := by
  refine step_lone_go ?_
  cases hmode : fr.mode with
  | run => exact absurd hmode hm
  | returning => simp [stepG, unwind, hmode, hd, Sem.runT_eq, hr]
  | panicking chain => simp [stepG, unwind, hmode, hd, Sem.runT_eq, hr]
/-- a deferred call of a builtin -/
theorem step_deferBuiltin {fr : Frame} {cs : List Frame} {w w' : World} {bt : Builtin} {ats : Array TypeId} {ty : TypeId} {consts : Array Bool} {ds : List Deferred} {ar : Array Value} {v : Value} (hm : fr.mode ≠ .run)
    (hd : fr.defers = { target := .builtin bt ats ty consts, args := ar } :: ds) (hr : (builtin bt ats ty consts ar).run P w = .ok (.value v) w') :
    step P (lone fr cs w) = .next (lone { fr with defers := ds } cs w') := by
  refine step_lone_go ?_
  have hi : (invoke (.builtin bt ats ty consts) ar).run P w = .ok (.value v) w' := hr
  cases hmode : fr.mode with
  | run => exact absurd hmode hm
  | returning => simp [stepG, unwind, callDeferred, hmode, hd, Sem.runT_eq, hi]
  | panicking chain => simp [stepG, unwind, callDeferred, hmode, hd, Sem.runT_eq, hi]
end
end Go.Proofs.YtfecnejgdafbcaaGreatDoor.Pi
