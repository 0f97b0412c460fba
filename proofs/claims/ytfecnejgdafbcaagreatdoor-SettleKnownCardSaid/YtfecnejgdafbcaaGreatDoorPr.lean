/- errors.As at a target of the type of debt's error, and errors.Is of what is the target itself: what they return, and what they turn in memory. Conditions: errors.errorType holds the handle of the type error (a premise of each theorem that needs it). -/
import Derived.Test.YtfecnejgdafbcaaGreatDoorRows
import Derived.WalkKit
import Derived.LaidEql
import Derived.Stop.Asserts
import Derived.RowKitTokens
set_option linter.all false
namespace Go.Proofs.YtfecnejgdafbcaaGreatDoor.Pr
open Go.RowKit Go.Extern.Stop Go.Stop Go.Extern

abbrev hd (t : Nat) : Value := .pointer (some ⟨5, t, none⟩)
theorem valueOfT (t : Addr) (w : World) : (ReflectliteValue.unpack (.iface 229 (.pointer (some t)))).run Tryz.prog w
    = .ok (.agg #[hd 229, .pointer (some ⟨w.heap.size, 0, none⟩), .int .u64 150]) (w.alloc (.cells #[.pointer (some t)] 229)) := by kernel_rfl
theorem typeT (a : Addr) (w : World) : (ReflectliteValue.methodAny (ReflectliteValue.valueError "reflectlite.Value.Type" 0) (fun t _ _ _ => ReflectliteType.toType t) #[.agg #[hd 229, .pointer (some a), .int .u64 150]]).run Tryz.prog w
    = .ok (.iface 372 (.agg #[hd 229])) w := by kernel_rfl
theorem methodKind (h : Value) (w : World) : (Go.method 759 372 (.agg #[h]) "Kind").run Tryz.prog w = .ok (448, h) w := by kernel_rfl
theorem kindT (w : World) : ((ReflectliteType.abiMethod fun t => (fun a : Nat => Value.int IntKind.u8 (a : Int)) <$> Rtype.kind t) #[hd 229]).run Tryz.prog w = .ok (.int .u8 22) w := by kernel_rfl
theorem kindF (w : World) : ((ReflectliteType.abiMethod fun t => (fun a : Nat => Value.int IntKind.u8 (a : Int)) <$> Rtype.kind t) #[hd 227]).run Tryz.prog w = .ok (.int .u8 25) w := by kernel_rfl
theorem rlm (z : Sem Value) (f : TypeId → Addr → Nat → Nat → Sem Value) (v : Value) :
    ReflectliteValue.method z f #[v] = (do match ← ReflectliteValue.parts v with | none => z | some (t, a, fl) => f t a fl (fl % 32)) := rfl
theorem partsT (a : Addr) (w : World) : (ReflectliteValue.parts (.agg #[hd 229, .pointer (some a), .int .u64 150])).run Tryz.prog w = .ok (some (229, a, 150)) w := by kernel_rfl
theorem isNilT (a p : Addr) (W : World) (ha : W.cell? a = some (.pointer (some p))) :
    (ReflectliteValue.method (ReflectliteValue.valueError "reflectlite.Value.IsNil" 0) ReflectliteValue.isNil #[.agg #[hd 229, .pointer (some a), .int .u64 150]]).run Tryz.prog W = .ok (.bool false) W := by
  rw [rlm]
  simp only [Sem.run_bind, partsT, Result.andThen]
  simp [ReflectliteValue.isNil, loadVar, isAgg, underlying, Tryz.underlying229, ha, Result.andThen]
theorem methodElem (h : Value) (w : World) : (Go.method 759 372 (.agg #[h]) "Elem").run Tryz.prog w = .ok (461, .agg #[h]) w := by kernel_rfl
theorem methodImplements (h : Value) (w : World) : (Go.method 759 372 (.agg #[h]) "Implements").run Tryz.prog w = .ok (462, .agg #[h]) w := by kernel_rfl
theorem methodAssignableTo (h : Value) (w : World) : (Go.method 759 372 (.agg #[h]) "AssignableTo").run Tryz.prog w = .ok (459, .agg #[h]) w := by kernel_rfl
theorem elemT (w : World) : (ReflectliteType.method ReflectliteType.elem #[.agg #[hd 229]]).run Tryz.prog w = .ok (.iface 372 (.agg #[hd 227])) w := by kernel_rfl
theorem implementsF (w : World) : (ReflectliteType.relation "Implements" ReflectliteType.implements_ #[.agg #[hd 227], .iface 372 (.agg #[hd 169])]).run Tryz.prog w = .ok (.bool true) w := by kernel_rfl
theorem typeOfF (v : Value) (w : World) : (ReflectliteType.typeOf #[.iface 227 v]).run Tryz.prog w = .ok (.iface 372 (.agg #[hd 227])) w := by kernel_rfl
theorem typeOfE (v : Value) (w : World) : (ReflectliteType.typeOf #[.iface 627 v]).run Tryz.prog w = .ok (.iface 372 (.agg #[hd 627])) w := by kernel_rfl
theorem assignableF (w : World) : (ReflectliteType.relation "AssignableTo" ReflectliteType.assignableTo #[.agg #[hd 227], .iface 372 (.agg #[hd 227])]).run Tryz.prog w = .ok (.bool true) w := by kernel_rfl
theorem assignableE (w : World) : (ReflectliteType.relation "AssignableTo" ReflectliteType.assignableTo #[.agg #[hd 627], .iface 372 (.agg #[hd 227])]).run Tryz.prog w = .ok (.bool false) w := by kernel_rfl
theorem valueOfF (v : Value) (w : World) : (ReflectliteValue.unpack (.iface 227 (.agg #[v]))).run Tryz.prog w
    = .ok (.agg #[hd 227, .pointer (some ⟨w.heap.size, 0, none⟩), .int .u64 153]) (w.alloc (.cells #[v] 227)) := by kernel_rfl
theorem elemOfT (w : World) : (Rtype.elem? 229).run Tryz.prog w = .ok (some 227) w := by kernel_rfl
theorem mkF (p : Addr) (w : World) : (ReflectliteValue.mk 227 p ReflectliteValue.flagAddr).run Tryz.prog w = .ok (.agg #[hd 227, .pointer (some p), .int .u64 409]) w := by kernel_rfl
theorem elemV (a p : Addr) (W : World) (ha : W.cell? a = some (.pointer (some p))) :
    (ReflectliteValue.method (ReflectliteValue.valueError "reflectlite.Value.Elem" 0) ReflectliteValue.elem #[.agg #[hd 229, .pointer (some a), .int .u64 150]]).run Tryz.prog W
      = .ok (.agg #[hd 227, .pointer (some p), .int .u64 409]) W := by
  rw [rlm]
  simp only [Sem.run_bind, partsT, Result.andThen]
  simp [ReflectliteValue.elem, loadVar, isAgg, underlying, Tryz.underlying229, ha, Result.andThen, elemOfT, mkF]
theorem rls (v x : Value) : ReflectliteValue.set #[v, x] = (do
    let (some (dst, a, fl), some (src, b, _)) := (← ReflectliteValue.parts v, ← ReflectliteValue.parts x)
      | unsupported (.noEntry "extern/(internal/reflectlite.Value).Set.zeroValue")
    if fl / ReflectliteValue.flagAddr % 2 == 0 then unsupported (.noEntry "extern/(internal/reflectlite.Value).Set.unaddressable")
    let val ← loadVar src b
    if ← Rtype.directlyAssignable dst src then storeVar dst a val
    else if ← Rtype.implements dst src then
      if (← Rtype.kind src) == 20 then
        match val with
        | .nilIface => unsupported (.noEntry "extern/reflectlite: a nil value of one interface type handed on as a value of another")
        | _ => storeVar dst a val
      else storeVar dst a (.iface src val)
    else panicString ("reflectlite.Set: value of type " ++ (← Rtype.spelt src) ++ " is not assignable to type " ++ (← Rtype.spelt dst))
    pure (.tuple #[])) := rfl
theorem partsA (a : Addr) (w : World) : (ReflectliteValue.parts (.agg #[hd 227, .pointer (some a), .int .u64 409])).run Tryz.prog w = .ok (some (227, a, 409)) w := by kernel_rfl
theorem partsF (a : Addr) (w : World) : (ReflectliteValue.parts (.agg #[hd 227, .pointer (some a), .int .u64 153])).run Tryz.prog w = .ok (some (227, a, 153)) w := by kernel_rfl
theorem directF (w : World) : (Rtype.directlyAssignable 227 227).run Tryz.prog w = .ok true w := by kernel_rfl
theorem sizeF (w : World) : (sizeOf 227).run Tryz.prog w = .ok 1 w := by kernel_rfl
theorem setF (ta b : Addr) (v old : Value) (W : World) (h1 : v.oneCell' = true) (hs : ta.spot = none) (hb : W.cell? b = some v) (hbs : b.spot = none) (ht : W.cell? ta = some old) (hf : W.frozen? ta = false) :
    (ReflectliteValue.set #[.agg #[hd 227, .pointer (some ta), .int .u64 409], .agg #[hd 227, .pointer (some b), .int .u64 153]]).run Tryz.prog W
      = .ok (.tuple #[]) (W.setCell ta v) := by
  rw [rls]
  simp only [Sem.run_bind, partsA, partsF, Result.andThen]
  obtain ⟨tb, to, ts⟩ := ta
  obtain ⟨bb, bo, bs⟩ := b
  simp only at hs hbs
  subst hs; subst hbs
  simp [ReflectliteValue.flagAddr, loadVar, isAgg, underlying, Tryz.underlying227, Result.andThen, directF, storeVar, Value.cells, sizeF, loadCells, loadCellsFrom, Addr.add, hb]
  simp [storeCells, Addr.add]
  rw [run_store Tryz.prog W _ _ _ h1]
  simp [ht, hf]

theorem noAsE (v : Value) (xT : TypeId) (w : World) : (Instr.typeAssert (.iface 627 v) xT 376 true).run Tryz.prog w = .ok (.tuple #[.nilIface, .bool false]) w := run_typeAssert_lacksB Tryz.underlying376 (by kernel_rfl) (by kernel_rfl) v xT w
theorem noUnwrapE (v : Value) (xT : TypeId) (w : World) : (Instr.typeAssert (.iface 627 v) xT 379 true).run Tryz.prog w = .ok (.tuple #[.nilIface, .bool false]) w := run_typeAssert_lacksB Tryz.underlying379 (by kernel_rfl) (by kernel_rfl) v xT w
theorem noUnwrapsE (v : Value) (xT : TypeId) (w : World) : (Instr.typeAssert (.iface 627 v) xT 381 true).run Tryz.prog w = .ok (.tuple #[.nilIface, .bool false]) w := run_typeAssert_lacksB Tryz.underlying381 (by kernel_rfl) (by kernel_rfl) v xT w

theorem as_nil (t : Value) (w : World) : Calls Tryz.prog 112 #[.nilIface, t] w fun e w' => e = .returned (.bool false) ∧ w' = w := by
  go_enter Tryz.func112, Tryz.ntmps112
  go_wp2
  go_ret
  exact ⟨rfl, rfl⟩

/-- the world behind the first steps of errors.As -/
def w3 (w : World) (t : Addr) : World := ((w.alloc (.cells #[.pointer (some t)] 229)).alloc (.cells #[hd 229, .pointer (some ⟨w.heap.size, 0, none⟩), .int .u64 150] 306)).alloc (.cells #[hd 229, .pointer (some ⟨w.heap.size, 0, none⟩), .int .u64 150] 306)
set_option maxHeartbeats 4000000 in
theorem as_hit (v : Value) (t : Addr) (old : Value) (w : World) (h1 : v.oneCell' = true) (hg : w.cell? ⟨1, 0, none⟩ = some (.iface 372 (.agg #[hd 169]))) (hsp : t.spot = none) (ht0 : w.cell? t = some old) (hf0 : w.frozen? t = false) :
    Calls Tryz.prog 112 #[.iface 227 (.agg #[v]), .iface 229 (.pointer (some t))] w fun ev w' => ev = .returned (.bool true) ∧ w' = ((w3 w t).alloc (.cells #[v] 227)).setCell t v := by
  have h6 := @run_callFunc_extern Tryz.prog 172 _ (fun args => ReflectliteValue.unpack (args.getD 0 (.tuple #[]))) Tryz.func172 (by kernel_rfl) (by kernel_rfl) (by kernel_rfl) (by kernel_rfl)
  have h7 := @run_callFunc_extern Tryz.prog 173 _ (ReflectliteValue.methodAny (ReflectliteValue.valueError "reflectlite.Value.Type" 0) (fun t _ _ _ => ReflectliteType.toType t)) Tryz.func173 (by kernel_rfl) (by kernel_rfl) (by kernel_rfl) (by kernel_rfl)
  have h8 := @run_callFunc_extern Tryz.prog 174 _ (ReflectliteValue.method (ReflectliteValue.valueError "reflectlite.Value.IsNil" 0) ReflectliteValue.isNil) Tryz.func174 (by kernel_rfl) (by kernel_rfl) (by kernel_rfl) (by kernel_rfl)
  have h27 := @run_callFunc_extern Tryz.prog 448 _ (ReflectliteType.abiMethod fun t => do pure (.int .u8 (← Rtype.kind t))) Tryz.func448 (by kernel_rfl) (by kernel_rfl) (by kernel_rfl) (by kernel_rfl)
  have h37 := @run_callFunc_extern Tryz.prog 461 _ (ReflectliteType.method ReflectliteType.elem) Tryz.func461 (by kernel_rfl) (by kernel_rfl) (by kernel_rfl) (by kernel_rfl)
  have h38 := @run_callFunc_extern Tryz.prog 462 _ (ReflectliteType.relation "Implements" ReflectliteType.implements_) Tryz.func462 (by kernel_rfl) (by kernel_rfl) (by kernel_rfl) (by kernel_rfl)
  have h10 := @run_callFunc_extern Tryz.prog 176 _ ReflectliteType.typeOf Tryz.func176 (by kernel_rfl) (by kernel_rfl) (by kernel_rfl) (by kernel_rfl)
  have h35 := @run_callFunc_extern Tryz.prog 459 _ (ReflectliteType.relation "AssignableTo" ReflectliteType.assignableTo) Tryz.func459 (by kernel_rfl) (by kernel_rfl) (by kernel_rfl) (by kernel_rfl)
  have h11 := @run_callFunc_extern Tryz.prog 224 _ (ReflectliteValue.method (ReflectliteValue.valueError "reflectlite.Value.Elem" 0) ReflectliteValue.elem) Tryz.func224 (by kernel_rfl) (by kernel_rfl) (by kernel_rfl) (by kernel_rfl)
  have h12 := @run_callFunc_extern Tryz.prog 225 _ ReflectliteValue.set Tryz.func225 (by kernel_rfl) (by kernel_rfl) (by kernel_rfl) (by kernel_rfl)
  have tO := typeOfF
  have mA := methodAssignableTo
  have a25 := assignableF
  have v25 := valueOfF
  have f6 := valueOfT
  have f7 := typeT
  have mK := methodKind
  have mE := methodElem
  have mI := methodImplements
  have k27 := kindT
  have k25 := kindF
  have e27 := elemT
  have i25 := implementsF
  have n8 := isNilT ⟨w.heap.size, 0, none⟩ t ((w.alloc (.cells #[.pointer (some t)] 229)).alloc (.cells #[hd 229, .pointer (some ⟨w.heap.size, 0, none⟩), .int .u64 150] 306)) (by simp)
  have hlt : 1 < w.heap.size := by
    rcases Nat.lt_or_ge 1 w.heap.size with h | h
    · exact h
    · simp [World.cell?, Array.getElem?_eq_none h] at hg
  have hg2 : ((w.alloc (.cells #[.pointer (some t)] 229)).alloc (.cells #[hd 229, .pointer (some ⟨w.heap.size, 0, none⟩), .int .u64 150] 306)).cell? ⟨1, 0, none⟩ = some (.iface 372 (.agg #[hd 169])) := by
    rw [World.cell?_alloc_lt _ _ ⟨1, 0, none⟩ (by simp; omega), World.cell?_alloc_lt _ _ ⟨1, 0, none⟩ hlt]; exact hg
  have htl : t.block < w.heap.size := by
    rcases Nat.lt_or_ge t.block w.heap.size with h | h
    · exact h
    · simp [World.cell?, Array.getElem?_eq_none h] at ht0
  have el := elemV ⟨w.heap.size, 0, none⟩ t (w3 w t) (by unfold w3; rw [World.cell?_alloc_lt _ _ ⟨w.heap.size, 0, none⟩ (by simp; omega)]; simp)
  have st := setF t ⟨w.heap.size + 1 + 1 + 1, 0, none⟩ v old ((w3 w t).alloc (.cells #[v] 227)) h1 hsp
    (by unfold w3; rw [World.cell?_alloc_at _ _ _ _ (by simp)]; rfl) rfl
    (by unfold w3; rw [World.cell?_alloc_lt _ _ t (by simp; omega), World.cell?_alloc_lt _ _ t (by simp; omega), World.cell?_alloc_lt _ _ t (by simp; omega), World.cell?_alloc_lt _ _ t htl]; exact ht0)
    (by unfold w3; rw [World.frozen?_alloc_old _ _ t (by simp; omega), World.frozen?_alloc_old _ _ t (by simp; omega), World.frozen?_alloc_old _ _ t (by simp; omega), World.frozen?_alloc_old _ _ t (Nat.ne_of_lt htl)]; exact hf0)
  unfold w3 at el st ⊢
  go_enter Tryz.func112, Tryz.ntmps112
  go_wp2
  refine wp_loop_rounds 1 ?_
  rw [rounds_succ]
  go_wp2
  go_ret
  exact ⟨rfl, rfl⟩
set_option maxHeartbeats 4000000 in
theorem as_plain (a : Value) (t : Addr) (w : World) (hg : w.cell? ⟨1, 0, none⟩ = some (.iface 372 (.agg #[hd 169]))) :
    Calls Tryz.prog 112 #[.iface 627 a, .iface 229 (.pointer (some t))] w fun ev w' => ev = .returned (.bool false) ∧ w' = w3 w t := by
  have h6 := @run_callFunc_extern Tryz.prog 172 _ (fun args => ReflectliteValue.unpack (args.getD 0 (.tuple #[]))) Tryz.func172 (by kernel_rfl) (by kernel_rfl) (by kernel_rfl) (by kernel_rfl)
  have h7 := @run_callFunc_extern Tryz.prog 173 _ (ReflectliteValue.methodAny (ReflectliteValue.valueError "reflectlite.Value.Type" 0) (fun t _ _ _ => ReflectliteType.toType t)) Tryz.func173 (by kernel_rfl) (by kernel_rfl) (by kernel_rfl) (by kernel_rfl)
  have h8 := @run_callFunc_extern Tryz.prog 174 _ (ReflectliteValue.method (ReflectliteValue.valueError "reflectlite.Value.IsNil" 0) ReflectliteValue.isNil) Tryz.func174 (by kernel_rfl) (by kernel_rfl) (by kernel_rfl) (by kernel_rfl)
  have h27 := @run_callFunc_extern Tryz.prog 448 _ (ReflectliteType.abiMethod fun t => do pure (.int .u8 (← Rtype.kind t))) Tryz.func448 (by kernel_rfl) (by kernel_rfl) (by kernel_rfl) (by kernel_rfl)
  have h37 := @run_callFunc_extern Tryz.prog 461 _ (ReflectliteType.method ReflectliteType.elem) Tryz.func461 (by kernel_rfl) (by kernel_rfl) (by kernel_rfl) (by kernel_rfl)
  have h38 := @run_callFunc_extern Tryz.prog 462 _ (ReflectliteType.relation "Implements" ReflectliteType.implements_) Tryz.func462 (by kernel_rfl) (by kernel_rfl) (by kernel_rfl) (by kernel_rfl)
  have h10 := @run_callFunc_extern Tryz.prog 176 _ ReflectliteType.typeOf Tryz.func176 (by kernel_rfl) (by kernel_rfl) (by kernel_rfl) (by kernel_rfl)
  have h35 := @run_callFunc_extern Tryz.prog 459 _ (ReflectliteType.relation "AssignableTo" ReflectliteType.assignableTo) Tryz.func459 (by kernel_rfl) (by kernel_rfl) (by kernel_rfl) (by kernel_rfl)
  have tO := typeOfE
  have mA := methodAssignableTo
  have a25 := assignableE
  have f6 := valueOfT
  have f7 := typeT
  have mK := methodKind
  have mE := methodElem
  have mI := methodImplements
  have k27 := kindT
  have k25 := kindF
  have e27 := elemT
  have i25 := implementsF
  have nE := noAsE
  have uE := noUnwrapE
  have vE := noUnwrapsE
  have n8 := isNilT ⟨w.heap.size, 0, none⟩ t ((w.alloc (.cells #[.pointer (some t)] 229)).alloc (.cells #[hd 229, .pointer (some ⟨w.heap.size, 0, none⟩), .int .u64 150] 306)) (by simp)
  have hlt : 1 < w.heap.size := by
    rcases Nat.lt_or_ge 1 w.heap.size with h | h
    · exact h
    · simp [World.cell?, Array.getElem?_eq_none h] at hg
  have hg2 : ((w.alloc (.cells #[.pointer (some t)] 229)).alloc (.cells #[hd 229, .pointer (some ⟨w.heap.size, 0, none⟩), .int .u64 150] 306)).cell? ⟨1, 0, none⟩ = some (.iface 372 (.agg #[hd 169])) := by
    rw [World.cell?_alloc_lt _ _ ⟨1, 0, none⟩ (by simp; omega), World.cell?_alloc_lt _ _ ⟨1, 0, none⟩ hlt]; exact hg
  unfold w3
  go_enter Tryz.func112, Tryz.ntmps112
  go_wp2
  refine wp_loop_rounds 1 ?_
  rw [rounds_succ]
  go_wp2
  go_ret
  exact ⟨rfl, rfl⟩

theorem isTypeOf (v : Value) (w : World) : (ReflectliteType.typeOf #[.iface 627 v]).run Tryz.prog w = .ok (.iface 372 (.agg #[hd 627])) w := by kernel_rfl
def cmpF : TypeId → Sem Value := fun t => do Rtype.noPackHeld "Comparable" t; pure (.bool (← typeInfo t).comparable)
theorem isComparable (w : World) : ((ReflectliteType.method cmpF) #[.agg #[hd 627]]).run Tryz.prog w = .ok (.bool true) w := by kernel_rfl
theorem isMethodComparable (v : Value) (w : World) : (Go.method 759 372 v "Comparable").run Tryz.prog w = .ok (460, v) w := by kernel_rfl
theorem isComp : (Tryz.prog.info? 627).map (·.comparable) = some true := by kernel_rfl
theorem isSize : (Tryz.prog.info? 647).map (·.size) = some 1 := by kernel_rfl
theorem is_same (a : Addr) (w : World) :
    Calls Tryz.prog 113 #[.iface 627 (.pointer (some a)), .iface 627 (.pointer (some a))] w fun e w' => e = .returned (.bool true) ∧ w' = w := by
  obtain ⟨i, hi, hcmp⟩ := Option.map_eq_some_iff.1 isComp
  obtain ⟨j, hj, hjs⟩ := Option.map_eq_some_iff.1 isSize
  have h8 := @run_callFunc_extern Tryz.prog 176 _ ReflectliteType.typeOf Tryz.func176 (by kernel_rfl) (by kernel_rfl) (by kernel_rfl) (by kernel_rfl)
  have h32 := @run_callFunc_extern Tryz.prog 460 _ (ReflectliteType.method cmpF) Tryz.func460 (by kernel_rfl) (by kernel_rfl) (by kernel_rfl) (by kernel_rfl)
  have tT := isTypeOf
  have cT := isComparable
  have mR := isMethodComparable
  have heq := run_eql_iface_ptr_same (P := Tryz.prog) w a Tryz.underlying169 Tryz.underlying627 hi hcmp hj
  go_enter Tryz.func113, Tryz.ntmps113
  go_wp2
  refine wp_loop_rounds 1 ?_
  rw [rounds_succ]
  go_wp2
  go_ret
  exact ⟨rfl, rfl⟩
end Go.Proofs.YtfecnejgdafbcaaGreatDoor.Pr
