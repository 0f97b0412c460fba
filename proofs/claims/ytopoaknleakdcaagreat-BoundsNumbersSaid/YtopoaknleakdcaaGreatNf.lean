/- Functions as plain Lean functions, and that the evaluator comes to each. No condition. -/
import Derived.Test.YtopoaknleakdcaaGreatPs4
import Derived.Test.YtopoaknleakdcaaGreatRows
namespace Go.Proofs.YtopoaknleakdcaaGreat.bounds
open Go.Proofs.YtopoaknleakdcaaGreat.Sv
set_option maxRecDepth 1000000
def pu (g : Nat) : Bool := [2, 3, 4, 5, 6, 7, 8, 9, 10, 11, 12, 13, 14, 15, 16, 17, 18, 19, 20, 21, 22, 23, 24, 25, 26, 27, 28, 29, 30, 31, 32, 35, 36, 37, 39, 40, 41, 42, 43, 44, 45, 46, 49, 50, 51, 52, 56, 57, 58, 59, 60, 61, 62, 63, 64, 65, 66, 67, 68, 69, 70, 71, 77, 79, 80, 82, 83, 84, 85, 87, 88, 89, 90, 91, 92, 93, 94, 96, 97, 98, 99, 100, 106, 107, 108, 109, 110, 111, 112, 113, 114, 115, 116, 117, 118, 119, 120, 121, 122, 124, 125, 126, 127, 128, 129, 130, 132, 133, 136, 138, 139, 140, 141, 143, 144, 145, 146, 147, 148, 151, 152, 153, 154, 155, 156, 157, 158, 159, 160, 161, 162, 163, 164, 165, 166, 167, 168, 169, 170, 171, 173, 176, 177, 178, 179, 180, 181, 182, 183, 186, 187, 188, 189, 190, 191, 192, 193, 194, 195, 196, 200, 201, 202, 203, 204, 205, 206, 209, 218, 219, 222, 225, 226, 228, 229, 230, 231, 232, 233, 234, 235, 236, 237, 238, 239, 240, 241, 242, 243, 245, 250, 252, 253, 254, 255, 256, 258, 259, 260, 261, 269, 274, 275, 276, 277, 278, 279, 281, 282, 283, 285, 286, 287, 288, 289, 292, 311, 312, 313].any (Nat.beq g)

def tab0 : List (FuncId × Sg) := []
theorem tab0_ok : TabOK Go.Proofs.Tryz.prog (mkTab pu tab0) := tab_nil _ _
/-- bookend/bounds.right -/
def F42 (x : domDen [(false, (.int .i64)), (false, (.sl false (.int .i64)))]) : Option (domDen [(false, .bool)]) :=
  br (ilt x.1 1) (fun _ => some false) fun _ => br (igt x.1 16) (fun _ => some false) fun _ => bd (loop (fun s0 => br (ilt s0.1 (nti (llen x.2))) (fun _ => nat s0.1 fun k1 => ix x.2 k1 fun x2 => br (ilt x2 0) (fun _ => some (.dn ((0, ((s0.1, false), ()))))) fun _ => br (igt x2 1000000000) (fun _ => some (.dn ((0, ((s0.1, false), ()))))) fun _ => some (.nx (iadd .i64 s0.1 1, s0.2))) fun _ => some (.dn ((1, (s0, ()))))) (0, false)) fun r3 => br (neq r3.1 0) (fun _ => some r3.2.1.2) fun _ => some true
def an42 : List (Nat × Nat × Nat × An) := [(42, 4, 10, .loop { keep := [0, 1, 7, 11, 9, 13, 8, 12, 10, 14], kb := [], pl := [.slot 15 false (.int .i64), .slot 4 false .bool], ex := [(.ret, []), (.exit 0, [])], pay := .unit })]
theorem e42 (x : domDen [(false, (.int .i64)), (false, (.sl false (.int .i64)))]) : runA Go.Proofs.Tryz.prog (mkTab pu tab0) (annGet an42) 3000 60 42 [(false, (.int .i64)), (false, (.sl false (.int .i64)))] [(false, .bool)] x = F42 x := by kernel_rfl
def tab1 : List (FuncId × Sg) := (42, ⟨[(false, (.int .i64)), (false, (.sl false (.int .i64)))], [(false, .bool)], F42⟩) :: tab0
theorem tab1_ok : TabOK Go.Proofs.Tryz.prog (mkTab pu tab1) := tab_cons tab0_ok e42
/-- bookend/bounds.Height -/
def F14 (x : domDen [(false, (.int .i64)), (false, (.int .i64))]) : Option (domDen [(false, (.int .i64)), (false, (.int .i64))]) :=
  bd (F42 (x.1, [x.2])) fun r0 => br (bnot r0) (fun _ => some (0, 7)) fun _ => br (ieq x.2 0) (fun _ => some (0, 0)) fun _ => bd (loop (fun s1 => br (ilt s1.1 x.2) (fun _ => br (ilt s1.2 12) (fun _ => some (.nx (ishl .i64 s1.1 1, iadd .i64 s1.2 1))) fun _ => some (.dn ((0, (s1, ()))))) fun _ => some (.dn ((0, (s1, ()))))) (x.1, 1)) fun r2 => some (r2.2.1.2, 0)
def an14 : List (Nat × Nat × Nat × An) := [(14, 7, 12, .loop { keep := [0, 1, 15, 11, 5, 9, 13, 4, 8, 12, 10, 14], kb := [], pl := [.slot 7 false (.int .i64), .slot 6 false (.int .i64)], ex := [(.exit 0, [])], pay := .unit })]
theorem e14 (x : domDen [(false, (.int .i64)), (false, (.int .i64))]) : runA Go.Proofs.Tryz.prog (mkTab pu tab1) (annGet an14) 3000 60 14 [(false, (.int .i64)), (false, (.int .i64))] [(false, (.int .i64)), (false, (.int .i64))] x = F14 x := by kernel_rfl
def tab2 : List (FuncId × Sg) := (14, ⟨[(false, (.int .i64)), (false, (.int .i64))], [(false, (.int .i64)), (false, (.int .i64))], F14⟩) :: tab1
theorem tab2_ok : TabOK Go.Proofs.Tryz.prog (mkTab pu tab2) := tab_cons tab1_ok e14
/-- bookend/bookendref34.right -/
def F39 (x : domDen [(false, (.int .i64))]) : Option (domDen [(false, .bool)]) :=
  br (ige x 0) (fun _ => some (ile x 1000000000)) fun _ => some false
theorem e39 (x : domDen [(false, (.int .i64))]) : runA Go.Proofs.Tryz.prog (mkTab pu tab2) (annGet []) 3000 60 39 [(false, (.int .i64))] [(false, .bool)] x = F39 x := by kernel_rfl
def tab3 : List (FuncId × Sg) := (39, ⟨[(false, (.int .i64))], [(false, .bool)], F39⟩) :: tab2
theorem tab3_ok : TabOK Go.Proofs.Tryz.prog (mkTab pu tab3) := tab_cons tab2_ok e39
/-- bookend/bookendref34.power -/
def F77 (x : domDen [(false, (.int .i64)), (false, (.int .i64))]) : Option (domDen [(false, (.int .i64))]) :=
  bd (loop (fun s0 => br (ilt s0.2 x.2) (fun _ => some (.nx (imul .i64 2 s0.1, iadd .i64 s0.2 1))) fun _ => some (.dn ((0, (s0, ()))))) (x.1, 0)) fun r1 => some r1.2.1.1
def an77 : List (Nat × Nat × Nat × An) := [(77, 2, 2, .loop { keep := [1, 4], kb := [], pl := [.slot 0 false (.int .i64), .slot 5 false (.int .i64)], ex := [(.exit 0, [])], pay := .unit })]
theorem e77 (x : domDen [(false, (.int .i64)), (false, (.int .i64))]) : runA Go.Proofs.Tryz.prog (mkTab pu tab3) (annGet an77) 3000 60 77 [(false, (.int .i64)), (false, (.int .i64))] [(false, (.int .i64))] x = F77 x := by kernel_rfl
def tab4 : List (FuncId × Sg) := (77, ⟨[(false, (.int .i64)), (false, (.int .i64))], [(false, (.int .i64))], F77⟩) :: tab3
theorem tab4_ok : TabOK Go.Proofs.Tryz.prog (mkTab pu tab4) := tab_cons tab3_ok e77
/-- bookend/bookendref34.height -/
def F40 (x : domDen [(false, (.int .i64)), (false, (.int .i64))]) : Option (domDen [(false, (.int .i64))]) :=
  br (ieq x.2 0) (fun _ => some 0) fun _ => bd (loop (fun s0 => br (ilt s0.2 12) (fun _ => bd (F77 (x.1, isub .i64 s0.2 1)) fun r1 => br (ilt r1 x.2) (fun _ => some (.nx (iadd .i64 s0.1 1, iadd .i64 s0.2 1))) fun _ => some (.nx (s0.1, iadd .i64 s0.2 1))) fun _ => some (.dn ((0, (s0, ()))))) (1, 1)) fun r2 => some r2.2.1.1
def an40 : List (Nat × Nat × Nat × An) := [(40, 5, 5, .loop { keep := [0, 1, 7, 4, 8], kb := [], pl := [.slot 5 false (.int .i64), .slot 6 false (.int .i64)], ex := [(.exit 0, [])], pay := .unit })]
theorem e40 (x : domDen [(false, (.int .i64)), (false, (.int .i64))]) : runA Go.Proofs.Tryz.prog (mkTab pu tab4) (annGet an40) 3000 60 40 [(false, (.int .i64)), (false, (.int .i64))] [(false, (.int .i64))] x = F40 x := by kernel_rfl
def tab5 : List (FuncId × Sg) := (40, ⟨[(false, (.int .i64)), (false, (.int .i64))], [(false, (.int .i64))], F40⟩) :: tab4
theorem tab5_ok : TabOK Go.Proofs.Tryz.prog (mkTab pu tab5) := tab_cons tab4_ok e40
/-- bookend/bookendref34.Height -/
def F16 (x : domDen [(false, (.int .i64)), (false, (.int .i64))]) : Option (domDen [(false, (.int .i64)), (false, (.int .i64))]) :=
  br (ilt x.1 1) (fun _ => some (0, 7)) fun _ => br (igt x.1 16) (fun _ => some (0, 7)) fun _ => bd (F39 x.2) fun r0 => br (bnot r0) (fun _ => some (0, 7)) fun _ => bd (F40 x) fun r1 => some (r1, 0)
theorem e16 (x : domDen [(false, (.int .i64)), (false, (.int .i64))]) : runA Go.Proofs.Tryz.prog (mkTab pu tab5) (annGet []) 3000 60 16 [(false, (.int .i64)), (false, (.int .i64))] [(false, (.int .i64)), (false, (.int .i64))] x = F16 x := by kernel_rfl
def tab6 : List (FuncId × Sg) := (16, ⟨[(false, (.int .i64)), (false, (.int .i64))], [(false, (.int .i64)), (false, (.int .i64))], F16⟩) :: tab5
theorem tab6_ok : TabOK Go.Proofs.Tryz.prog (mkTab pu tab6) := tab_cons tab5_ok e16
/-- bookend/bounds.Work -/
def F17 (x : domDen [(false, (.int .i64)), (false, (.int .i64))]) : Option (domDen [(false, (.int .i64)), (false, (.int .i64))]) :=
  bd (F42 (x.1, [x.2])) fun r0 => br (bnot r0) (fun _ => some (0, 7)) fun _ => some ((imul .i64 x.1 (iadd .i64 x.2 1), 0))
theorem e17 (x : domDen [(false, (.int .i64)), (false, (.int .i64))]) : runA Go.Proofs.Tryz.prog (mkTab pu tab6) (annGet []) 3000 60 17 [(false, (.int .i64)), (false, (.int .i64))] [(false, (.int .i64)), (false, (.int .i64))] x = F17 x := by kernel_rfl
def tab7 : List (FuncId × Sg) := (17, ⟨[(false, (.int .i64)), (false, (.int .i64))], [(false, (.int .i64)), (false, (.int .i64))], F17⟩) :: tab6
theorem tab7_ok : TabOK Go.Proofs.Tryz.prog (mkTab pu tab7) := tab_cons tab6_ok e17
/-- bookend/bookendref34.Work -/
def F18 (x : domDen [(false, (.int .i64)), (false, (.int .i64))]) : Option (domDen [(false, (.int .i64)), (false, (.int .i64))]) :=
  br (ilt x.1 1) (fun _ => some (0, 7)) fun _ => br (igt x.1 16) (fun _ => some (0, 7)) fun _ => bd (F39 x.2) fun r0 => br (bnot r0) (fun _ => some (0, 7)) fun _ => some ((iadd .i64 (imul .i64 x.1 x.2) x.1, 0))
theorem e18 (x : domDen [(false, (.int .i64)), (false, (.int .i64))]) : runA Go.Proofs.Tryz.prog (mkTab pu tab7) (annGet []) 3000 60 18 [(false, (.int .i64)), (false, (.int .i64))] [(false, (.int .i64)), (false, (.int .i64))] x = F18 x := by kernel_rfl
def tab8 : List (FuncId × Sg) := (18, ⟨[(false, (.int .i64)), (false, (.int .i64))], [(false, (.int .i64)), (false, (.int .i64))], F18⟩) :: tab7
theorem tab8_ok : TabOK Go.Proofs.Tryz.prog (mkTab pu tab8) := tab_cons tab7_ok e18
/-- bookend/bounds.Steps -/
def F15 (x : domDen [(false, (.int .i64)), (false, (.int .i64)), (false, (.int .i64))]) : Option (domDen [(false, (.int .i64)), (false, (.int .i64))]) :=
  bd (F42 (x.1, [x.2.1, x.2.2])) fun r0 => br (bnot r0) (fun _ => some (0, 7)) fun _ => bd (F14 (x.1, x.2.1)) fun r1 => some ((iadd .i64 (imul .i64 (iadd .i64 (imul .i64 2 x.1) 1) x.2.2) (imul .i64 (imul .i64 5 x.2.1) (imx (isub .i64 r1.1 1) 0)), r1.2))
theorem e15 (x : domDen [(false, (.int .i64)), (false, (.int .i64)), (false, (.int .i64))]) : runA Go.Proofs.Tryz.prog (mkTab pu tab8) (annGet []) 3000 60 15 [(false, (.int .i64)), (false, (.int .i64)), (false, (.int .i64))] [(false, (.int .i64)), (false, (.int .i64))] x = F15 x := by kernel_rfl
def tab9 : List (FuncId × Sg) := (15, ⟨[(false, (.int .i64)), (false, (.int .i64)), (false, (.int .i64))], [(false, (.int .i64)), (false, (.int .i64))], F15⟩) :: tab8
theorem tab9_ok : TabOK Go.Proofs.Tryz.prog (mkTab pu tab9) := tab_cons tab8_ok e15
/-- bookend/bookendref34.Steps -/
def F19 (x : domDen [(false, (.int .i64)), (false, (.int .i64)), (false, (.int .i64))]) : Option (domDen [(false, (.int .i64)), (false, (.int .i64))]) :=
  br (ilt x.1 1) (fun _ => some (0, 7)) fun _ => br (igt x.1 16) (fun _ => some (0, 7)) fun _ => bd (F39 x.2.1) fun r0 => br (bnot r0) (fun _ => some (0, 7)) fun _ => bd (F39 x.2.2) fun r1 => br (bnot r1) (fun _ => some (0, 7)) fun _ => bd (F40 (x.1, x.2.1)) fun r2 => some ((iadd .i64 (imul .i64 (iadd .i64 (imul .i64 2 x.1) 1) x.2.2) (imul .i64 (imul .i64 5 x.2.1) (imx (isub .i64 r2 1) 0)), 0))
theorem e19 (x : domDen [(false, (.int .i64)), (false, (.int .i64)), (false, (.int .i64))]) : runA Go.Proofs.Tryz.prog (mkTab pu tab9) (annGet []) 3000 60 19 [(false, (.int .i64)), (false, (.int .i64)), (false, (.int .i64))] [(false, (.int .i64)), (false, (.int .i64))] x = F19 x := by kernel_rfl
def tab10 : List (FuncId × Sg) := (19, ⟨[(false, (.int .i64)), (false, (.int .i64)), (false, (.int .i64))], [(false, (.int .i64)), (false, (.int .i64))], F19⟩) :: tab9
theorem tab10_ok : TabOK Go.Proofs.Tryz.prog (mkTab pu tab10) := tab_cons tab9_ok e19
/-- bookend/bounds.Name -/
def F20 (x : domDen [(false, (.int .i64))]) : Option (domDen [(false, .str), (false, (.int .i64))]) :=
  br (ilt x 1) (fun _ => some ([], 2)) fun _ => br (igt x 5) (fun _ => some ([], 2)) fun _ => nat (isub .i64 x 1) fun k0 => br (neq k0 0) (fun _ => some (([(100 : UInt8), (101 : UInt8), (98 : UInt8), (116 : UInt8)], 0))) fun _ => br (neq k0 1) (fun _ => some (([(114 : UInt8), (117 : UInt8), (110 : UInt8), (115 : UInt8)], 0))) fun _ => br (neq k0 2) (fun _ => some (([(101 : UInt8), (110 : UInt8), (116 : UInt8), (114 : UInt8), (105 : UInt8), (101 : UInt8), (115 : UInt8)], 0))) fun _ => br (neq k0 3) (fun _ => some (([(104 : UInt8), (101 : UInt8), (105 : UInt8), (103 : UInt8), (104 : UInt8), (116 : UInt8)], 0))) fun _ => gd (neq k0 4) fun _ => some (([(114 : UInt8), (105 : UInt8), (115 : UInt8), (101 : UInt8)], 0))
theorem e20 (x : domDen [(false, (.int .i64))]) : runA Go.Proofs.Tryz.prog (mkTab pu tab10) (annGet []) 3000 60 20 [(false, (.int .i64))] [(false, .str), (false, (.int .i64))] x = F20 x := by kernel_rfl
def tab11 : List (FuncId × Sg) := (20, ⟨[(false, (.int .i64))], [(false, .str), (false, (.int .i64))], F20⟩) :: tab10
theorem tab11_ok : TabOK Go.Proofs.Tryz.prog (mkTab pu tab11) := tab_cons tab10_ok e20
/-- bookend/bookendref34.Name -/
def F21 (x : domDen [(false, (.int .i64))]) : Option (domDen [(false, .str), (false, (.int .i64))]) :=
  br (ilt x 1) (fun _ => some ([], 2)) fun _ => br (igt x 5) (fun _ => some ([], 2)) fun _ => nat x fun k0 => br (neq k0 0) (fun _ => some ([], 0)) fun _ => br (neq k0 1) (fun _ => some (([(100 : UInt8), (101 : UInt8), (98 : UInt8), (116 : UInt8)], 0))) fun _ => br (neq k0 2) (fun _ => some (([(114 : UInt8), (117 : UInt8), (110 : UInt8), (115 : UInt8)], 0))) fun _ => br (neq k0 3) (fun _ => some (([(101 : UInt8), (110 : UInt8), (116 : UInt8), (114 : UInt8), (105 : UInt8), (101 : UInt8), (115 : UInt8)], 0))) fun _ => br (neq k0 4) (fun _ => some (([(104 : UInt8), (101 : UInt8), (105 : UInt8), (103 : UInt8), (104 : UInt8), (116 : UInt8)], 0))) fun _ => gd (neq k0 5) fun _ => some (([(114 : UInt8), (105 : UInt8), (115 : UInt8), (101 : UInt8)], 0))
theorem e21 (x : domDen [(false, (.int .i64))]) : runA Go.Proofs.Tryz.prog (mkTab pu tab11) (annGet []) 3000 60 21 [(false, (.int .i64))] [(false, .str), (false, (.int .i64))] x = F21 x := by kernel_rfl
def tab12 : List (FuncId × Sg) := (21, ⟨[(false, (.int .i64))], [(false, .str), (false, (.int .i64))], F21⟩) :: tab11
theorem tab12_ok : TabOK Go.Proofs.Tryz.prog (mkTab pu tab12) := tab_cons tab11_ok e21
def F8 (_ : Unit) : Option Bool := some true
def tab13 : List (FuncId × Sg) := (8, ⟨[], [(false, .bool)], fun _ => some true⟩) :: tab12
theorem c8 : closedT Go.Proofs.Tryz.prog (fun f => !pu f) 1000000 1000 8 = true := by kernel_rfl
theorem tab13_ok : TabOK Go.Proofs.Tryz.prog (mkTab pu tab13) := tab_closed tab12_ok c8
/-- bookend/bookendlaw34.BoundsNumbers -/
def F5 (x : domDen [(false, (.int .i64)), (false, (.int .i64)), (false, (.int .i64))]) : Option (domDen [(false, .bool)]) :=
  bd (F14 (x.1, x.2.1)) fun r0 => bd (F16 (x.1, x.2.1)) fun r1 => bd (F17 (x.1, x.2.1)) fun r2 => bd (F18 (x.1, x.2.1)) fun r3 => br (ine r0.1 r1.1) (fun _ => some false) fun _ => br (ine r0.2 r1.2) (fun _ => some false) fun _ => br (ine r2.1 r3.1) (fun _ => some false) fun _ => br (ine r2.2 r3.2) (fun _ => some false) fun _ => bd (F15 x) fun r4 => bd (F19 x) fun r5 => bd (F20 x.2.2) fun r6 => bd (F21 x.2.2) fun r7 => br (ieq r4.1 r5.1) (fun _ => br (ieq r4.2 r5.2) (fun _ => br (seq r6.1 r7.1) (fun _ => br (ieq r6.2 r7.2) (fun _ => bd (F8 ()) fun r8 => some r8) fun _ => some false) fun _ => some false) fun _ => some false) fun _ => some false
theorem e5 (x : domDen [(false, (.int .i64)), (false, (.int .i64)), (false, (.int .i64))]) : runA Go.Proofs.Tryz.prog (mkTab pu tab13) (annGet []) 3000 60 5 [(false, (.int .i64)), (false, (.int .i64)), (false, (.int .i64))] [(false, .bool)] x = F5 x := by kernel_rfl
theorem calls5 {x : domDen [(false, (.int .i64)), (false, (.int .i64)), (false, (.int .i64))]} (h : F5 x = some true) {ps : List Pi.PV} (ha : domP [(false, (.int .i64)), (false, (.int .i64)), (false, (.int .i64))] x ps) {M : Pi.Mem} {w : World} (hM : ∀ a v, M a = some v → a.spot = none ∧ w.cell? a = some v) {vs : List Value} (hr : Pi.RepL M Pi.mu0 ps vs) :
    Calls Go.Proofs.Tryz.prog 5 vs.toArray w fun e w' => e = .returned (.bool true) ∧ RowKit.Grown w w' := law_calls tab13_ok ((e5 x).trans h) ha hM hr
def tab14 : List (FuncId × Sg) := (5, ⟨[(false, (.int .i64)), (false, (.int .i64)), (false, (.int .i64))], [(false, .bool)], F5⟩) :: tab13
theorem tab14_ok : TabOK Go.Proofs.Tryz.prog (mkTab pu tab14) := tab_cons tab13_ok e5
end Go.Proofs.YtopoaknleakdcaaGreat.bounds
