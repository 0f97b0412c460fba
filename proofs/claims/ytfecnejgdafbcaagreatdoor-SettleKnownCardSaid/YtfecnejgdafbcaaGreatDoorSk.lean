/- settleKnown: the law holds: the call returns true, on every schedule; the condition is the row's own: the listed package-level variables hold what the program's text lays them at. The run is computed by an evaluator that is proved sound for any program. -/
import Derived.Test.YtfecnejgdafbcaaGreatDoorRows
import Derived.Test.YtfecnejgdafbcaaGreatDoorCards
import Derived.Test.YtfecnejgdafbcaaGreatDoorTie
import Derived.Test.YtfecnejgdafbcaaGreatDoorSk1
import Derived.Test.YtfecnejgdafbcaaGreatDoorSk2
import Derived.Test.YtfecnejgdafbcaaGreatDoorSk3
import Derived.Test.YtfecnejgdafbcaaGreatDoorSk4
import Derived.Test.YtfecnejgdafbcaaGreatDoorSkd
import Derived.WalkKit
import Derived.ProofKit
import Derived.OpenShut
import Derived.LaidLaws
import Derived.LaidHandle
import Derived.Stop.ErrReads
import Derived.Conc.Holds
import Derived.Leaving
import Derived.SevenTiedAt
namespace Go.Proofs.YtfecnejgdafbcaaGreatDoor.settleKnown
open Go.ChangeShapes Go.WideShapes Go.ChangeAt Go.RowKit
set_option linter.all false
set_option maxRecDepth 100000

theorem own : ownKnob Tryz.prog.godebug = none := by kernel_rfl
theorem ok0 : Pi.KnOK Tryz.prog kl0 := Pi.kn_nil _
theorem ok1 : Pi.KnOK Tryz.prog kl1 := Pi.kn_cons Gv.prim ok0 an0
theorem ok2 : Pi.KnOK Tryz.prog kl2 := Pi.kn_cons Gv.prim ok1 an1
theorem ok3 : Pi.KnOK Tryz.prog kl3 := Pi.kn_cons Gv.prim ok2 an2
theorem ok4 : Pi.KnOK Tryz.prog kl4 := Pi.kn_cons Gv.prim ok3 an3
theorem ok5 : Pi.KnOK Tryz.prog kl5 := Pi.kn_cons Gv.prim ok4 an4
theorem ok6 : Pi.KnOK Tryz.prog kl6 := Pi.kn_cons Gv.prim ok5 an5
theorem ok7 : Pi.KnOK Tryz.prog kl7 := Pi.kn_cons Gv.prim ok6 an6
theorem ok8 : Pi.KnOK Tryz.prog kl8 := Pi.kn_cons Gv.prim ok7 an7
theorem ok9 : Pi.KnOK Tryz.prog kl9 := Pi.kn_cons Gv.prim ok8 an8
theorem ok10 : Pi.KnOK Tryz.prog kl10 := Pi.kn_cons Gv.prim ok9 an9
theorem ok11 : Pi.KnOK Tryz.prog kl11 := Pi.kn_cons Gv.prim ok10 an10
theorem ok12 : Pi.KnOK Tryz.prog kl12 := Pi.kn_cons Gv.prim ok11 an11
theorem ok13 : Pi.KnOK Tryz.prog kl13 := Pi.kn_cons Gv.prim ok12 an12
theorem ok14 : Pi.KnOK Tryz.prog kl14 := Pi.kn_cons Gv.prim ok13 an13
theorem ok15 : Pi.KnOK Tryz.prog kl15 := Pi.kn_cons Gv.prim ok14 an14
theorem ok16 : Pi.KnOK Tryz.prog kl16 := Pi.kn_cons Gv.prim ok15 an15
theorem ok17 : Pi.KnOK Tryz.prog kl17 := Pi.kn_cons Gv.prim ok16 an16
theorem ok18 : Pi.KnOK Tryz.prog kl18 := Pi.kn_cons Gv.prim ok17 an17
theorem ok19 : Pi.KnOK Tryz.prog kl19 := Pi.kn_cons Gv.prim ok18 an18
theorem ok20 : Pi.KnOK Tryz.prog kl20 := Pi.kn_cons Gv.prim ok19 an19
theorem ok21 : Pi.KnOK Tryz.prog kl21 := Pi.kn_cons Gv.prim ok20 an20
theorem ok22 : Pi.KnOK Tryz.prog kl22 := Pi.kn_cons Gv.prim ok21 an21
theorem ok23 : Pi.KnOK Tryz.prog kl23 := Pi.kn_cons Gv.prim ok22 an22
theorem ok24 : Pi.KnOK Tryz.prog kl24 := Pi.kn_cons Gv.prim ok23 an23
theorem ok25 : Pi.KnOK Tryz.prog kl25 := Pi.kn_cons Gv.prim ok24 an24
theorem ok26 : Pi.KnOK Tryz.prog kl26 := Pi.kn_cons Gv.prim ok25 an25

theorem walk (w : World) (gw : Pi.GlW w) : Calls Tryz.prog 5 #[] w fun e w' => e = .returned (.bool true) ∧ Grown w w' := Pi.kn_grown Gv.prim ok26 ran w gw

theorem gEt : Tryz.prog.globalNamed "errors.errorType" = some 1 := by kernel_rfl
theorem gEs : Tryz.prog.globalNamed "bookend/debt.errSettled" = some 0 := by kernel_rfl
theorem tEs : (Tryz.prog.globals[0]?).map (·.type) = some 169 := by kernel_rfl
theorem rt : (Tryz.prog.cutTypes.find? (·.1 == "internal/reflectlite.rtype")).map (·.2) = some 372 := by kernel_rfl
theorem oneRow : ((List.range 659).filter fun t => Tryz.prog.rowNamed t [101, 114, 114, 111, 114]) = [169] := by kernel_rfl
theorem size : Tryz.prog.types.size = 659 := by kernel_rfl
theorem cellsEs : Tryz.prog.cellsOf 647 = 1 := by kernel_rfl
theorem cellsStr : Tryz.prog.cellsOf 9 = 1 := by kernel_rfl
theorem star : "*" ++ "errors.errorString" = "*errors.errorString" := by decide
theorem rowEs (u : TypeId) (h : Tryz.prog.typeName? 3 u = some "*errors.errorString") : u = 627 :=
  typeName_ptr_named (nm := "errors.errorString") (by rw [star]; kernel_rfl) (by kernel_rfl) (by decide) u (by rw [star]; exact h)
def laidS : List (String × DataW Unit) := [("bookend/debt.errSettled", Rows.laid_bookend_debt_errSettled)]
def laidT : List (String × DataW Unit) := [("errors.errorType", Rows.laid_errors_errorType)]
/-- what the row's condition gives the walk -/
theorem of_laid {W : World} (h : laidMetH Tryz.prog Rows.settleKnownRow.laid W) : Pi.GlW W := by
  have h' : laidMet Tryz.prog laidS W ∧ handlesMet Tryz.prog laidT W := h
  have h1 : W.cell? ⟨1, 0, none⟩ = some (.iface 372 (.agg #[.pointer (some ⟨5, 169, none⟩)])) := by
    obtain ⟨name, u, ty, e1, e2, e3, e4, e5⟩ := h'.2 _ (List.mem_singleton.2 rfl)
    have en : name = [101, 114, 114, 111, 114] := (Option.some.inj e1).symm
    subst en
    obtain rfl := Option.some.inj (rt.symm.trans e2)
    have hm : ty ∈ (List.range 659).filter fun t => Tryz.prog.rowNamed t [101, 114, 114, 111, 114] := List.mem_filter.2 ⟨List.mem_range.2 (by rw [← size]; exact e3), e4⟩
    rw [oneRow] at hm
    obtain rfl := List.mem_singleton.1 hm
    have hh : typeHandle Tryz.prog 169 = .pointer (some ⟨5, 169, none⟩) := by kernel_rfl
    rw [hh] at e5
    simpa using World.var?_cell gEt e5 0
  obtain ⟨ps, ⟨g0, t0, cs0, f0, p0, q0, hg0, ht0, hv0, hd0, hq0, e0⟩, hnd, hrows⟩ := h'.1
  obtain rfl := Option.some.inj (gEs.symm.trans hg0)
  obtain rfl := Option.some.inj (tEs.symm.trans ht0)
  have hq0' : q0 = [] := hq0
  subst hq0'
  subst e0
  obtain ⟨l0⟩ := cs0
  have ok0 : ∀ u v, l0 = [.iface u v] → Value.okWide Tryz.prog W .any 0 u v := fun u v e => by
    subst e
    exact (hrows 0 0 (by simp [MemPlace.row])).2 u v (by simpa using World.var?_cell hg0 hv0 0)
  obtain ⟨a0, s0, rfl, hc0, hs0, hz0, rfl⟩ := errorString_of_trod Tryz.underlying169 rowEs Tryz.underlying627 Tryz.underlying647 rfl rfl Tryz.underlying9 cellsEs cellsStr hd0 ok0
  exact Gv.glw (a := a0) (by simpa using World.var?_cell hg0 hv0 0) h1

abbrev settledS : ByteArray := { data := #[115, 101, 116, 116, 108, 101, 100] }
noncomputable def low : Nat := (World.holding Tryz.prog default ⟨#[], #[], []⟩).heap.size
/-- a world that meets the condition -/
noncomputable def laidWorld (os : Os) : World :=
  let w0 := World.holding Tryz.prog os ⟨#[.cells #[.string settledS] 647], #[], []⟩
  { w0 with heap := (w0.heap.modify 0 fun
      | .cells _ t frozen => .cells #[.iface 627 (.pointer (some ⟨low, 0, none⟩))] t frozen
      | o => o).modify 1 fun
      | .cells _ t frozen => .cells #[.iface 372 (.agg #[.pointer (some ⟨5, 169, none⟩)])] t frozen
      | o => o }
theorem laidWorld_met (os : Os) (args : Array Value) : laidMetH Tryz.prog Rows.settleKnownRow.laid ((laidWorld os).forCall (fun _ _ => 0) ⟨#[], args, []⟩).memory :=
  laidMetH_of_parts (laidMet_of_run (ps := [.cell 0 0, .cell low 0]) 8 (by kernel_rfl) (by kernel_rfl) (by kernel_rfl)) (by kernel_rfl)

theorem lifted (os : Os) (started : os.Started) (H : Type) (enc : TypeId × Value → H) :
    ReturnsInHanded {} Tryz.checked os 5 .any (fun w args => (Rows.settleKnownSpec.pre enc Tryz.prog Tryz.f5 Rows.settleKnownRow.domain false w args ∧ laidMetH Tryz.prog Rows.settleKnownRow.laid w) ∧ sizedMet enc Tryz.prog Tryz.f5 (OpenSpec.ofChange Rows.settleKnownSpec) false w args)
      (Rows.settleKnownSpec.post enc Tryz.prog Tryz.f5 false true false false) := by
  refine returnsInHanded_of_change_and (C := Tryz.checked) (X := fun w _ => laidMetH Tryz.prog Rows.settleKnownRow.laid w) (fun _ _ _ hh h => h.of_heap hh) own started (by kernel_rfl) Tryz.func5
    (ChangeSpec.witness_at (enc := enc) (C := Tryz.checked) (os := os) (X := fun w _ => laidMetH Tryz.prog Rows.settleKnownRow.laid w) false (laidWorld os) #[] 8 rfl (by kernel_rfl) (by kernel_rfl) (by kernel_rfl) (by kernel_rfl) (by kernel_rfl) (laidWorld_met os _)) ?_
  intro W base args ds gs before hval0 hW _ _ hL _
  have hval : ∀ (j : Nat) t v, Tryz.f5.params[j]? = some t → args[j]? = some v → Value.okWide Tryz.prog W .any base t v := hval0
  have hW' := hW
  obtain ⟨p, q, hA0, hV, rfl, hfz, hnd⟩ := hW
  have hA : DataW.TrodAll enc Tryz.prog W 0 (fun _ => true) true Tryz.f5.params.toList args.toList ds p := hA0
  rw [Tryz.params5] at hA hval
  obtain ⟨rfl, rfl, rfl⟩ := trodAll_none hA
  obtain ⟨rfl, rfl⟩ := trodVars_none hV
  clear hA0 hval0
  simp only [List.append_nil] at hW'
  refine (walk W (of_laid hL)).mono fun e W' ⟨he, hg⟩ => ?_
  subst he
  exact ⟨_, rfl, post_of_same (pa := []) (pv := []) hW' (fun _ _ _ => (trodAll_cons_mk (shut_bool Tryz.underlying4 _) trodAll_mk0)) (fun sp _ => rfl) (fun _ _ => rfl) rfl
    (hg.frame _) hg.2.1 (ok_one (by kernel_rfl) rfl (okWide_bool_mk Tryz.underlying4 _))⟩
theorem leaving {a : Assume} {C : Checked} {os : Os} {f : FuncId} {r : Reach} {Pre : World → Array Value → Prop} {Post : World → Array Value → Value → World → Prop} (h : ReturnsInHanded a C os f r Pre Post) : ReturnsInLeavingWide a C os f r Pre Post :=
  fun e => ReturnsInOpen.mono (fun _ _ _ x => ⟨x.2.1, onlyLeaving_of_quiet x.1, x.2.2⟩) (fun _ x => x) (h e)
theorem over : Rows.settleKnownRow.holds Tryz.pinned (OpenSpec.ofChange Rows.settleKnownSpec) :=
  OpenClaim.holds_of_wide_leaving 5 Tryz.f5 rfl rfl rfl rfl rfl rfl rfl ⟨rfl, rfl, rfl, rfl, rfl⟩ rfl rfl rfl rfl rfl (by kernel_rfl) Tryz.func5 joined
    (of_decide_eq_true (by kernel_rfl)) (by unfold Func.isWrapper; first | (rw [if_pos (by decide +kernel)]; kernel_rfl) | (rw [if_neg (by decide +kernel)]; exact ⟨rfl, rfl⟩))
    (fun os started H enc _ => leaving (lifted os started H enc))

/-- the statement: the tied card -/
theorem proved : Rows.SettleKnownCardSaid :=
  ⟨Claim7.tied_new_at .later [.handle, .sentinel] true (Claim7.new_of_sixth over (true, "0a63b3d102b34163581eba9bef20634faacdd0443af7a0de175bf065dcd04d20") true rfl ⟨rfl, rfl⟩ (by kernel_rfl) rfl
    (fun f fn hf hfn => by
      obtain rfl : f = 5 := Option.some.inj ((show Tryz.prog.funcNamed "bookend/bookendlaw22.SettleKnown" = some 5 by kernel_rfl).symm.trans hf) |>.symm
      obtain rfl : fn = Tryz.f5 := (Option.some.inj (Tryz.func5.symm.trans hfn)).symm
      exact ⟨by kernel_rfl, fun j t ht => by
        rw [Tryz.params5] at ht
        simp at ht⟩)) (by kernel_rfl), (fun _ h => by cases h), settleKnown_row_tie, (fun h => by cases h), (by kernel_rfl)⟩
#print axioms proved
end Go.Proofs.YtfecnejgdafbcaaGreatDoor.settleKnown
