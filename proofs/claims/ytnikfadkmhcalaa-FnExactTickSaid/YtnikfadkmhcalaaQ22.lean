/- The walks of the program's functions: what a call of each answers is what its Lean function tells; conditions: none but that the Lean function tells something (a bound on rounds). Written by a program of this session out of the translation. -/
import Derived.Test.YtnikfadkmhcalaaQ0
import Derived.Test.YtnikfadkmhcalaaQ2
import Derived.Test.YtnikfadkmhcalaaQ4
import Derived.Test.YtnikfadkmhcalaaQ6
import Derived.Test.YtnikfadkmhcalaaQ19
import Derived.Test.YtnikfadkmhcalaaQ21
namespace Go.Proofs.Ytnikfadkmhcalaa.Q
open Go.RowKit Go.Proofs.YtnikfadkmhcalaaW.PrintWords Go.Proofs.YtnikfadkmhcalaaW.PrintLast Go.Proofs.YtnikfadkmhcalaaW.PrintMore
attribute [local go_sem] max2_int min2_int max_two min_two max_three min_three max_four min_four   -- for this text's walks alone
set_option linter.unusedVariables false
set_option linter.unusedSimpArgs false

/-! ### laws_FnExactTick: function 12 -/
def laws_FnExactTick.f (k : Nat) (a0_0 : Int) (a0_1 : Int) (a0_2 : Int) (a0_3 : Int) (a0_4 : Int) (a1_0 : Int) (a1_1 : Int) (a2_0 : Int) (a2_1 : Int) (a2_2 : Int) (a2_3 : Int) (a2_4 : Bool) : Option (Bool) := (laws_toBrakes.f a0_0 a0_1 a0_2 a0_3 a0_4).bind fun bt348 => ((laws_toGuard.f a1_0 a1_1).bind fun bt353 => ((laws_toFelt.f a2_0 a2_1 a2_2 a2_3 a2_4).bind fun bt355 => ((spec_Tick.f k bt348.1 bt348.2.1 bt348.2.2.1 bt348.2.2.2.1 bt348.2.2.2.2 bt353.1 bt353.2 bt355.1 bt355.2.1 bt355.2.2.1 bt355.2.2.2.1 bt355.2.2.2.2).bind fun bt360 => ((laws_toBrakes.f a0_0 a0_1 a0_2 a0_3 a0_4).bind fun bt367 => ((laws_toGuard.f a1_0 a1_1).bind fun bt372 => ((laws_toFelt.f a2_0 a2_1 a2_2 a2_3 a2_4).bind fun bt374 => ((impl_Tick.f k bt367.1 bt367.2.1 bt367.2.2.1 bt367.2.2.2.1 bt367.2.2.2.2 bt372.1 bt372.2 bt374.1 bt374.2.1 bt374.2.2.1 bt374.2.2.2.1 bt374.2.2.2.2).bind fun bt379 => ((laws_eqSaid.f bt379.1 bt379.2.1 bt379.2.2.1 bt379.2.2.2.1 bt379.2.2.2.2.1 bt379.2.2.2.2.2 bt360.1 bt360.2.1 bt360.2.2.1 bt360.2.2.2.1 bt360.2.2.2.2.1 bt360.2.2.2.2.2).bind fun t386 => (if t386 = true then (some true) else (some false))))))))))
def laws_FnExactTick.T1 : Bool × List (List Nat × List Nat) := (true, [([], []), ([0], [0]), ([], []), ([2, 1], [2]), ([], []), ([4, 3], [4]), ([1, 3, 5, 5], [1, 3, 5]), ([], []), ([7, 6, 6, 0, 1, 2, 3, 4, 5, 6, 7], [6, 7])])
def laws_FnExactTick.B1 : List Nat := [0, 1, 0, 7, 0, 31, 63, 0, 255]
theorem laws_FnExactTick.tab1 : rtab .any (opsOf Try.f12 1) = laws_FnExactTick.T1 := by kernel_rfl
theorem laws_FnExactTick.bits1 : waitsOk laws_FnExactTick.T1.2 laws_FnExactTick.B1 = true := by kernel_rfl
def laws_FnExactTick.T2 : Bool × List (List Nat × List Nat) := (true, [([], []), ([0], [0]), ([], []), ([2, 1], [2]), ([], []), ([4, 3], [4]), ([1, 3, 5, 5], [1, 3, 5]), ([], []), ([7, 6, 6, 0, 1, 2, 3, 4, 5, 6, 7], [6, 7])])
def laws_FnExactTick.B2 : List Nat := [0, 1, 0, 7, 0, 31, 63, 0, 255]
theorem laws_FnExactTick.tab2 : rtab .any (opsOf Try.f12 2) = laws_FnExactTick.T2 := by kernel_rfl
theorem laws_FnExactTick.bits2 : waitsOk laws_FnExactTick.T2.2 laws_FnExactTick.B2 = true := by kernel_rfl
set_option maxHeartbeats 8000000 in
set_option maxRecDepth 100000 in
theorem laws_FnExactTick.calls (k : Nat) (a0_0 : Int) (a0_1 : Int) (a0_2 : Int) (a0_3 : Int) (a0_4 : Int) (a1_0 : Int) (a1_1 : Int) (a2_0 : Int) (a2_1 : Int) (a2_2 : Int) (a2_3 : Int) (a2_4 : Bool) (r : Bool) (w : World) (h : laws_FnExactTick.f k a0_0 a0_1 a0_2 a0_3 a0_4 a1_0 a1_1 a2_0 a2_1 a2_2 a2_3 a2_4 = some r) :
  Calls Try.prog 12 #[.agg #[.int .i64 a0_0, .int .i64 a0_1, .int .i64 a0_2, .int .i64 a0_3, .int .i64 a0_4], .agg #[.int .i64 a1_0, .int .i64 a1_1], .agg #[.int .i64 a2_0, .int .i64 a2_1, .int .i64 a2_2, .int .i64 a2_3, .bool a2_4]] w fun e w' => e = .returned (.bool r) ∧ Below w.heap.size w w' := by
 have hu30 := Try.underlying30
 have hu24 := Try.underlying24
 have hu36 := Try.underlying36
 have hu52 := Try.underlying52
 have HB := MK (Below.refl w.heap.size w)
 have H : ((laws_toBrakes.f a0_0 a0_1 a0_2 a0_3 a0_4).bind fun bt348 => ((laws_toGuard.f a1_0 a1_1).bind fun bt353 => ((laws_toFelt.f a2_0 a2_1 a2_2 a2_3 a2_4).bind fun bt355 => ((spec_Tick.f k bt348.1 bt348.2.1 bt348.2.2.1 bt348.2.2.2.1 bt348.2.2.2.2 bt353.1 bt353.2 bt355.1 bt355.2.1 bt355.2.2.1 bt355.2.2.2.1 bt355.2.2.2.2).bind fun bt360 => ((laws_toBrakes.f a0_0 a0_1 a0_2 a0_3 a0_4).bind fun bt367 => ((laws_toGuard.f a1_0 a1_1).bind fun bt372 => ((laws_toFelt.f a2_0 a2_1 a2_2 a2_3 a2_4).bind fun bt374 => ((impl_Tick.f k bt367.1 bt367.2.1 bt367.2.2.1 bt367.2.2.2.1 bt367.2.2.2.2 bt372.1 bt372.2 bt374.1 bt374.2.1 bt374.2.2.1 bt374.2.2.2.1 bt374.2.2.2.2).bind fun bt379 => ((laws_eqSaid.f bt379.1 bt379.2.1 bt379.2.2.1 bt379.2.2.2.1 bt379.2.2.2.2.1 bt379.2.2.2.2.2 bt360.1 bt360.2.1 bt360.2.2.1 bt360.2.2.2.1 bt360.2.2.2.2.1 bt360.2.2.2.2.2).bind fun t386 => (if t386 = true then (some true) else (some false))))))))))) = some r := h
 clear h
 replace H := Option.bind_eq_some_iff.mp H
 obtain ⟨⟨t348, t349, t350, t351, t352⟩, A40, H⟩ := H
 replace H : ((laws_toGuard.f a1_0 a1_1).bind fun bt353 => ((laws_toFelt.f a2_0 a2_1 a2_2 a2_3 a2_4).bind fun bt355 => ((spec_Tick.f k t348 t349 t350 t351 t352 bt353.1 bt353.2 bt355.1 bt355.2.1 bt355.2.2.1 bt355.2.2.2.1 bt355.2.2.2.2).bind fun bt360 => ((laws_toBrakes.f a0_0 a0_1 a0_2 a0_3 a0_4).bind fun bt367 => ((laws_toGuard.f a1_0 a1_1).bind fun bt372 => ((laws_toFelt.f a2_0 a2_1 a2_2 a2_3 a2_4).bind fun bt374 => ((impl_Tick.f k bt367.1 bt367.2.1 bt367.2.2.1 bt367.2.2.2.1 bt367.2.2.2.2 bt372.1 bt372.2 bt374.1 bt374.2.1 bt374.2.2.1 bt374.2.2.2.1 bt374.2.2.2.2).bind fun bt379 => ((laws_eqSaid.f bt379.1 bt379.2.1 bt379.2.2.1 bt379.2.2.2.1 bt379.2.2.2.2.1 bt379.2.2.2.2.2 bt360.1 bt360.2.1 bt360.2.2.1 bt360.2.2.2.1 bt360.2.2.2.2.1 bt360.2.2.2.2.2).bind fun t386 => (if t386 = true then (some true) else (some false)))))))))) = some r := H
 have A4 := MK A40
 clear A40
 replace H := Option.bind_eq_some_iff.mp H
 obtain ⟨⟨t353, t354⟩, A50, H⟩ := H
 replace H : ((laws_toFelt.f a2_0 a2_1 a2_2 a2_3 a2_4).bind fun bt355 => ((spec_Tick.f k t348 t349 t350 t351 t352 t353 t354 bt355.1 bt355.2.1 bt355.2.2.1 bt355.2.2.2.1 bt355.2.2.2.2).bind fun bt360 => ((laws_toBrakes.f a0_0 a0_1 a0_2 a0_3 a0_4).bind fun bt367 => ((laws_toGuard.f a1_0 a1_1).bind fun bt372 => ((laws_toFelt.f a2_0 a2_1 a2_2 a2_3 a2_4).bind fun bt374 => ((impl_Tick.f k bt367.1 bt367.2.1 bt367.2.2.1 bt367.2.2.2.1 bt367.2.2.2.2 bt372.1 bt372.2 bt374.1 bt374.2.1 bt374.2.2.1 bt374.2.2.2.1 bt374.2.2.2.2).bind fun bt379 => ((laws_eqSaid.f bt379.1 bt379.2.1 bt379.2.2.1 bt379.2.2.2.1 bt379.2.2.2.2.1 bt379.2.2.2.2.2 bt360.1 bt360.2.1 bt360.2.2.1 bt360.2.2.2.1 bt360.2.2.2.2.1 bt360.2.2.2.2.2).bind fun t386 => (if t386 = true then (some true) else (some false))))))))) = some r := H
 have A5 := MK A50
 clear A50
 replace H := Option.bind_eq_some_iff.mp H
 obtain ⟨⟨t355, t356, t357, t358, t359⟩, A60, H⟩ := H
 replace H : ((spec_Tick.f k t348 t349 t350 t351 t352 t353 t354 t355 t356 t357 t358 t359).bind fun bt360 => ((laws_toBrakes.f a0_0 a0_1 a0_2 a0_3 a0_4).bind fun bt367 => ((laws_toGuard.f a1_0 a1_1).bind fun bt372 => ((laws_toFelt.f a2_0 a2_1 a2_2 a2_3 a2_4).bind fun bt374 => ((impl_Tick.f k bt367.1 bt367.2.1 bt367.2.2.1 bt367.2.2.2.1 bt367.2.2.2.2 bt372.1 bt372.2 bt374.1 bt374.2.1 bt374.2.2.1 bt374.2.2.2.1 bt374.2.2.2.2).bind fun bt379 => ((laws_eqSaid.f bt379.1 bt379.2.1 bt379.2.2.1 bt379.2.2.2.1 bt379.2.2.2.2.1 bt379.2.2.2.2.2 bt360.1 bt360.2.1 bt360.2.2.1 bt360.2.2.2.1 bt360.2.2.2.2.1 bt360.2.2.2.2.2).bind fun t386 => (if t386 = true then (some true) else (some false)))))))) = some r := H
 have A6 := MK A60
 clear A60
 replace H := Option.bind_eq_some_iff.mp H
 obtain ⟨⟨t360, t361, t362, t363, t364, t365⟩, A70, H⟩ := H
 replace H : ((laws_toBrakes.f a0_0 a0_1 a0_2 a0_3 a0_4).bind fun bt367 => ((laws_toGuard.f a1_0 a1_1).bind fun bt372 => ((laws_toFelt.f a2_0 a2_1 a2_2 a2_3 a2_4).bind fun bt374 => ((impl_Tick.f k bt367.1 bt367.2.1 bt367.2.2.1 bt367.2.2.2.1 bt367.2.2.2.2 bt372.1 bt372.2 bt374.1 bt374.2.1 bt374.2.2.1 bt374.2.2.2.1 bt374.2.2.2.2).bind fun bt379 => ((laws_eqSaid.f bt379.1 bt379.2.1 bt379.2.2.1 bt379.2.2.2.1 bt379.2.2.2.2.1 bt379.2.2.2.2.2 t360 t361 t362 t363 t364 t365).bind fun t386 => (if t386 = true then (some true) else (some false))))))) = some r := H
 have A7 := MK A70
 clear A70
 replace H := Option.bind_eq_some_iff.mp H
 obtain ⟨⟨t367, t368, t369, t370, t371⟩, A80, H⟩ := H
 replace H : ((laws_toGuard.f a1_0 a1_1).bind fun bt372 => ((laws_toFelt.f a2_0 a2_1 a2_2 a2_3 a2_4).bind fun bt374 => ((impl_Tick.f k t367 t368 t369 t370 t371 bt372.1 bt372.2 bt374.1 bt374.2.1 bt374.2.2.1 bt374.2.2.2.1 bt374.2.2.2.2).bind fun bt379 => ((laws_eqSaid.f bt379.1 bt379.2.1 bt379.2.2.1 bt379.2.2.2.1 bt379.2.2.2.2.1 bt379.2.2.2.2.2 t360 t361 t362 t363 t364 t365).bind fun t386 => (if t386 = true then (some true) else (some false)))))) = some r := H
 have A8 := MK A80
 clear A80
 replace H := Option.bind_eq_some_iff.mp H
 obtain ⟨⟨t372, t373⟩, A90, H⟩ := H
 replace H : ((laws_toFelt.f a2_0 a2_1 a2_2 a2_3 a2_4).bind fun bt374 => ((impl_Tick.f k t367 t368 t369 t370 t371 t372 t373 bt374.1 bt374.2.1 bt374.2.2.1 bt374.2.2.2.1 bt374.2.2.2.2).bind fun bt379 => ((laws_eqSaid.f bt379.1 bt379.2.1 bt379.2.2.1 bt379.2.2.2.1 bt379.2.2.2.2.1 bt379.2.2.2.2.2 t360 t361 t362 t363 t364 t365).bind fun t386 => (if t386 = true then (some true) else (some false))))) = some r := H
 have A9 := MK A90
 clear A90
 replace H := Option.bind_eq_some_iff.mp H
 obtain ⟨⟨t374, t375, t376, t377, t378⟩, A100, H⟩ := H
 replace H : ((impl_Tick.f k t367 t368 t369 t370 t371 t372 t373 t374 t375 t376 t377 t378).bind fun bt379 => ((laws_eqSaid.f bt379.1 bt379.2.1 bt379.2.2.1 bt379.2.2.2.1 bt379.2.2.2.2.1 bt379.2.2.2.2.2 t360 t361 t362 t363 t364 t365).bind fun t386 => (if t386 = true then (some true) else (some false)))) = some r := H
 have A10 := MK A100
 clear A100
 replace H := Option.bind_eq_some_iff.mp H
 obtain ⟨⟨t379, t380, t381, t382, t383, t384⟩, A110, H⟩ := H
 replace H : ((laws_eqSaid.f t379 t380 t381 t382 t383 t384 t360 t361 t362 t363 t364 t365).bind fun t386 => (if t386 = true then (some true) else (some false))) = some r := H
 have A11 := MK A110
 clear A110
 replace H := Option.bind_eq_some_iff.mp H
 obtain ⟨t386, A120, H⟩ := H
 replace H : (if t386 = true then (some true) else (some false)) = some r := H
 have A12 := MK A120
 clear A120
 by_cases c13 : t386 = true
 ·subst c13
  have H1 : (some true) = some r := by rw [if_pos rfl] at H; exact H
  clear H
  have H := H1
  clear H1
  obtain rfl := Option.some.inj H
  go_enter Try.func12, Try.ntmps12
  try go_wp2_with (first | ((with_reducible refine gate_dst (N := 3) rfl ?_); refine box_event ?hg (N := 3) ?hd (cs := #[.int .i64 a0_0, .int .i64 a0_1, .int .i64 a0_2, .int .i64 a0_3, .int .i64 a0_4]) (t := 30) ?hr ?_; (case hd => rfl); (case hg => rfl); (case hr => first | (go_simp; done) | (go_simp; rfl)); intro gb345 hg w14 hbox hb; have n0_ := MK (below_step (by repeat (first | (with_reducible first | exact HB.out | apply lA | apply lN | apply lD) | exact HB.out)) hb); have n1_ := MK (hbox); have n2_ := MK ((by rw [hg]; exact (below_size (by repeat (first | (with_reducible first | exact HB.out | apply lA | apply lN | apply lD) | exact HB.out))) : w.heap.size ≤ gb345)); have n3_ := MK ((by rw [hg]; exact (below_size (by repeat (first | (with_reducible first | exact HB.out | apply lA | apply lN | apply lD) | exact HB.out))) : w.heap.size ≤ gb345)); clear HB; have HB := n0_; have BK345 := n1_; have GW345 := n2_; have GE345 := n3_; clear n0_ n1_ n2_ n3_; clear hb hbox hg) | ((with_reducible refine gate_dst (N := 4) rfl ?_); refine box_event ?hg (N := 4) ?hd (cs := #[.int .i64 a1_0, .int .i64 a1_1]) (t := 24) ?hr ?_; (case hd => rfl); (case hg => rfl); (case hr => first | (go_simp; done) | (go_simp; rfl)); intro gb346 hg w15 hbox hb; have n0_ := MK (blk_below (by (with_reducible repeat (first | refine bN ?_ _ | refine bD ?_ | refine bA ?_ _)); exact BK345.out) hb); have n1_ := MK (below_step (by repeat (first | (with_reducible first | exact HB.out | apply lA | apply lN | apply lD | refine lS ?_ GE345.out) | exact HB.out)) hb); have n2_ := MK (hbox); have n3_ := MK ((by rw [hg]; exact (below_size (by repeat (first | (with_reducible first | exact HB.out | apply lA | apply lN | apply lD | refine lS ?_ GE345.out) | exact HB.out))) : w.heap.size ≤ gb346)); have n4_ := MK ((by rw [hg]; exact (below_size (by repeat (first | (with_reducible first | exact HB.out | apply lA | apply lN | apply lD | refine lS ?_ GE345.out) | exact HB.out))) : w.heap.size ≤ gb346)); have n5_ := MK ((by rw [hg]; exact Nat.ne_of_lt (blk_lt (by (with_reducible repeat (first | refine bN ?_ _ | refine bD ?_ | refine bA ?_ _)); exact BK345.out)) : gb345 ≠ gb346)); have n6_ := MK ((by rw [hg]; exact Nat.ne_of_gt (blk_lt (by (with_reducible repeat (first | refine bN ?_ _ | refine bD ?_ | refine bA ?_ _)); exact BK345.out)) : gb346 ≠ gb345)); clear BK345; clear HB; have BK345 := n0_; have HB := n1_; have BK346 := n2_; have GW346 := n3_; have GE346 := n4_; have NB345_346 := n5_; have NB346_345 := n6_; clear n0_ n1_ n2_ n3_ n4_ n5_ n6_; clear hb hbox hg) | ((with_reducible refine gate_dst (N := 5) rfl ?_); refine box_event ?hg (N := 5) ?hd (cs := #[.int .i64 a2_0, .int .i64 a2_1, .int .i64 a2_2, .int .i64 a2_3, .bool a2_4]) (t := 36) ?hr ?_; (case hd => rfl); (case hg => rfl); (case hr => first | (go_simp; done) | (go_simp; rfl)); intro gb347 hg w16 hbox hb; have n0_ := MK (blk_below (by (with_reducible repeat (first | refine bN ?_ _ | refine bD ?_ | refine bA ?_ _)); exact BK345.out) hb); have n1_ := MK (blk_below (by (with_reducible repeat (first | refine bN ?_ _ | refine bD ?_ | refine bA ?_ _)); exact BK346.out) hb); have n2_ := MK (below_step (by repeat (first | (with_reducible first | exact HB.out | apply lA | apply lN | apply lD | refine lS ?_ GE345.out | refine lS ?_ GE346.out) | exact HB.out)) hb); have n3_ := MK (hbox); have n4_ := MK ((by rw [hg]; exact (below_size (by repeat (first | (with_reducible first | exact HB.out | apply lA | apply lN | apply lD | refine lS ?_ GE345.out | refine lS ?_ GE346.out) | exact HB.out))) : w.heap.size ≤ gb347)); have n5_ := MK ((by rw [hg]; exact (below_size (by repeat (first | (with_reducible first | exact HB.out | apply lA | apply lN | apply lD | refine lS ?_ GE345.out | refine lS ?_ GE346.out) | exact HB.out))) : w.heap.size ≤ gb347)); have n6_ := MK ((by rw [hg]; exact Nat.ne_of_lt (blk_lt (by (with_reducible repeat (first | refine bN ?_ _ | refine bD ?_ | refine bA ?_ _)); exact BK345.out)) : gb345 ≠ gb347)); have n7_ := MK ((by rw [hg]; exact Nat.ne_of_gt (blk_lt (by (with_reducible repeat (first | refine bN ?_ _ | refine bD ?_ | refine bA ?_ _)); exact BK345.out)) : gb347 ≠ gb345)); have n8_ := MK ((by rw [hg]; exact Nat.ne_of_lt (blk_lt (by (with_reducible repeat (first | refine bN ?_ _ | refine bD ?_ | refine bA ?_ _)); exact BK346.out)) : gb346 ≠ gb347)); have n9_ := MK ((by rw [hg]; exact Nat.ne_of_gt (blk_lt (by (with_reducible repeat (first | refine bN ?_ _ | refine bD ?_ | refine bA ?_ _)); exact BK346.out)) : gb347 ≠ gb346)); clear BK345; clear BK346; clear HB; have BK345 := n0_; have BK346 := n1_; have HB := n2_; have BK347 := n3_; have GW347 := n4_; have GE347 := n5_; have NB345_347 := n6_; have NB347_345 := n7_; have NB346_347 := n8_; have NB347_346 := n9_; clear n0_ n1_ n2_ n3_ n4_ n5_ n6_ n7_ n8_ n9_; clear hb hbox hg))
  have n0_ := MK (bD BK345.out)
  have n1_ := MK (bD BK346.out)
  have n2_ := MK (bD BK347.out)
  have n3_ := MK (lD HB.out)
  clear BK345
  clear BK346
  clear BK347
  clear HB
  have BK345 := n0_
  have BK346 := n1_
  have BK347 := n2_
  have HB := n3_
  clear n0_ n1_ n2_ n3_
  refine start_ (n := 9) (S := fun w' => True) (ds := []) #[false, false, false, false, false, false, false, false, false] (by kernel_rfl) rfl rfl trivial (fun hHeld => ?_); refine with_tabW laws_FnExactTick.tab1 laws_FnExactTick.bits1 (fun HT_ HW_ => ?_)
  generalize w16.drew = w17 at BK345 BK346 BK347 HB hHeld ⊢
  refine inv_at [0, 1, 2, 3, 4, 5, 6, 7, 8] (fun a0_ b a w' => ∃ (gb366 : Nat) (m7_ : Value), a = putSel a0_ b [(0, 9, .agg #[.int .i64 a0_0, .int .i64 a0_1, .int .i64 a0_2, .int .i64 a0_3, .int .i64 a0_4]), (1, 10, .agg #[.int .i64 t348, .int .i64 t349, .int .i64 t350, .int .i64 t351, .int .i64 t352]), (2, 11, .agg #[.int .i64 a1_0, .int .i64 a1_1]), (3, 12, .agg #[.int .i64 t353, .int .i64 t354]), (4, 13, .agg #[.int .i64 a2_0, .int .i64 a2_1, .int .i64 a2_2, .int .i64 a2_3, .bool a2_4]), (5, 14, .agg #[.int .i64 t355, .int .i64 t356, .int .i64 t357, .int .i64 t358, .bool t359]), (6, 15, .agg #[.bool t360, .int .i64 t361, .int .i64 t362, .int .i64 t363, .bool t364, .bool t365]), (7, 7, m7_)] ∧ (w'.heap[gb345]? = some (.cells #[.int .i64 a0_0, .int .i64 a0_1, .int .i64 a0_2, .int .i64 a0_3, .int .i64 a0_4] 30 (0, 0))) ∧ (w'.heap[gb346]? = some (.cells #[.int .i64 a1_0, .int .i64 a1_1] 24 (0, 0))) ∧ (w'.heap[gb347]? = some (.cells #[.int .i64 a2_0, .int .i64 a2_1, .int .i64 a2_2, .int .i64 a2_3, .bool a2_4] 36 (0, 0))) ∧ (Below w.heap.size w w') ∧ (b 7 = true → b 8 = false → w'.heap[gb366]? = some (.cells #[.bool false, .int .i64 0, .int .i64 0, .int .i64 0, .bool false, .bool false] 52 (0, 0))) ∧ (b 7 = true → w.heap.size ≤ gb366) ∧ (b 7 = true → w.heap.size ≤ gb366) ∧ (b 7 = true → gb345 ≠ gb366) ∧ (b 7 = true → gb366 ≠ gb345) ∧ (b 7 = true → gb346 ≠ gb366) ∧ (b 7 = true → gb366 ≠ gb346) ∧ (b 7 = true → gb347 ≠ gb366) ∧ (b 7 = true → gb366 ≠ gb347) ∧ (b 8 = true → w'.heap[gb366]? = some (.cells #[.bool t360, .int .i64 t361, .int .i64 t362, .int .i64 t363, .bool t364, .bool t365] 52 (0, 0))) ∧ (b 7 = true → (m7_ : Value) = .pointer (some ⟨gb366, 0, none⟩))) HT_.out HW_.out (by kernel_rfl) (by kernel_rfl) ?_ ?_ ?_
  ·exact ⟨0, .bool false, by simp only [putSel, Bool.false_eq_true, if_false], BK345.out, BK346.out, BK347.out, HB.out, fun h_ => absurd h_ (by decide), fun h_ => absurd h_ (by decide), fun h_ => absurd h_ (by decide), fun h_ => absurd h_ (by decide), fun h_ => absurd h_ (by decide), fun h_ => absurd h_ (by decide), fun h_ => absurd h_ (by decide), fun h_ => absurd h_ (by decide), fun h_ => absurd h_ (by decide), fun h_ => absurd h_ (by decide), fun h_ => absurd h_ (by decide)⟩
  ·skip
   clear BK345 BK346 BK347 HB
   refine steps_cons ?_ ?_
   ·rintro b a w' ⟨gb366, m7_, ha, Q_BK345, Q_BK346, Q_BK347, Q_HB, Q_BK366, Q_GW366, Q_GE366, Q_NB345_366, Q_NB366_345, Q_NB346_366, Q_NB366_346, Q_NB347_366, Q_NB366_347, Q_BK366_e8, Q_X7_⟩ hb_ hon hoff
    refine ⟨_, rfl, fun K hK => ?_⟩
    have e3 : a.tmps[3]? = some (.pointer (some ⟨gb345, 0, none⟩)) := by rw [ha]; exact (putSel_off rfl).trans rfl
    replace ha := MK ha
    have BK345 := MK Q_BK345
    have BK346 := MK Q_BK346
    have BK347 := MK Q_BK347
    have HB := MK Q_HB
    have hc0_ : w'.cell? ⟨gb345, 0, none⟩ = some (.int .i64 a0_0) := (blk_cell BK345.out 0).trans rfl
    have hc1_ : w'.cell? ⟨gb345, 1, none⟩ = some (.int .i64 a0_1) := (blk_cell BK345.out 1).trans rfl
    have hc2_ : w'.cell? ⟨gb345, 2, none⟩ = some (.int .i64 a0_2) := (blk_cell BK345.out 2).trans rfl
    have hc3_ : w'.cell? ⟨gb345, 3, none⟩ = some (.int .i64 a0_3) := (blk_cell BK345.out 3).trans rfl
    have hc4_ : w'.cell? ⟨gb345, 4, none⟩ = some (.int .i64 a0_4) := (blk_cell BK345.out 4).trans rfl
    refine value_ (w1 := w') (v := .agg #[.int .i64 a0_0, .int .i64 a0_1, .int .i64 a0_2, .int .i64 a0_3, .int .i64 a0_4]) (by rfl) rfl ?_ ?_
    ·go_simp
     (try simp only [i64_w])
     try rfl
    refine hK.out _ _ ⟨gb366, m7_, (by rw [ha.out]; exact putSel_upk 0 hb_ rfl rfl rfl), Q_BK345, Q_BK346, Q_BK347, Q_HB, Q_BK366, Q_GW366, Q_GE366, Q_NB345_366, Q_NB366_345, Q_NB346_366, Q_NB366_346, Q_NB347_366, Q_NB366_347, fun h0_ => absurd ((hoff 8 (by kernel_rfl)).symm.trans h0_) (by decide), Q_X7_⟩
   refine steps_cons ?_ ?_
   ·rintro b a w' ⟨gb366, m7_, ha, Q_BK345, Q_BK346, Q_BK347, Q_HB, Q_BK366, Q_GW366, Q_GE366, Q_NB345_366, Q_NB366_345, Q_NB346_366, Q_NB366_346, Q_NB347_366, Q_NB366_347, Q_BK366_e8, Q_X7_⟩ hb_ hon hoff
    refine ⟨_, rfl, fun K hK => ?_⟩
    have e9 : a.tmps[9]? = some (.agg #[.int .i64 a0_0, .int .i64 a0_1, .int .i64 a0_2, .int .i64 a0_3, .int .i64 a0_4]) := by rw [ha]; exact putSel_on (e := (0, 9, .agg #[.int .i64 a0_0, .int .i64 a0_1, .int .i64 a0_2, .int .i64 a0_3, .int .i64 a0_4])) 0 rfl rfl (hon 0 (by kernel_rfl)) rfl
    replace ha := MK ha
    have BK345 := MK Q_BK345
    have BK346 := MK Q_BK346
    have BK347 := MK Q_BK347
    have HB := MK Q_HB
    refine goes_ Try.func19 (by kernel_rfl) rfl #[.agg #[.int .i64 a0_0, .int .i64 a0_1, .int .i64 a0_2, .int .i64 a0_3, .int .i64 a0_4]] (by rfl) rfl rfl (by first | (simp only [List.map_toArray, List.map_cons, List.map_nil, Act.eval, Array.getD_eq_getD_getElem?, Option.getD_some, e9]; done) | (simp only [List.map_toArray, List.map_cons, List.map_nil, Act.eval, Array.getD_eq_getD_getElem?, Option.getD_some, e9]; rfl)) ?_
    with_reducible refine (laws_toBrakes.calls a0_0 a0_1 a0_2 a0_3 a0_4 t348 t349 t350 t351 t352 _ A4.out).mono ?_
    rintro e w18 ⟨rfl, hb⟩
    refine ⟨_, rfl, ?_⟩
    have n0_ := MK (blk_below (by (with_reducible repeat (first | refine bN ?_ _ | refine bD ?_ | refine bA ?_ _)); exact BK345.out) hb)
    have n1_ := MK (blk_below (by (with_reducible repeat (first | refine bN ?_ _ | refine bD ?_ | refine bA ?_ _)); exact BK346.out) hb)
    have n2_ := MK (blk_below (by (with_reducible repeat (first | refine bN ?_ _ | refine bD ?_ | refine bA ?_ _)); exact BK347.out) hb)
    have n3_ := MK (below_step (by repeat (first | (with_reducible first | exact HB.out | apply lA | apply lN | apply lD | refine lS ?_ GE345.out | refine lS ?_ GE346.out | refine lS ?_ GE347.out) | exact HB.out)) hb)
    have z_BK366 := fun (h0_ : b 7 = true) (h1_ : b 8 = false) => (show w18.heap[gb366]? = some (.cells #[.bool false, .int .i64 0, .int .i64 0, .int .i64 0, .bool false, .bool false] 52 (0, 0)) from by first | exact (blk_below (g := gb366) (o := .cells #[.bool false, .int .i64 0, .int .i64 0, .int .i64 0, .bool false, .bool false] 52 (0, 0)) (by (with_reducible repeat (first | refine bN ?_ _ | refine bD ?_ | refine bA ?_ _)); exact (Q_BK366 h0_ h1_)) hb))
    clear BK345
    clear BK346
    clear BK347
    clear HB
    have BK345 := n0_
    have BK346 := n1_
    have BK347 := n2_
    have HB := n3_
    clear n0_ n1_ n2_ n3_
    (try clear hb)
    (try clear hb2)
    (try clear hk)
    (try clear hi)
    refine hK.out _ _ ⟨gb366, m7_, (by rw [ha.out]; exact putSel_upk 1 hb_ rfl rfl rfl), (by (with_reducible repeat (first | refine bN ?_ _ | refine bD ?_ | refine bA ?_ _)); exact BK345.out), (by (with_reducible repeat (first | refine bN ?_ _ | refine bD ?_ | refine bA ?_ _)); exact BK346.out), (by (with_reducible repeat (first | refine bN ?_ _ | refine bD ?_ | refine bA ?_ _)); exact BK347.out), (by repeat (first | (with_reducible first | exact HB.out | apply lA | apply lN | apply lD | refine lS ?_ GE345.out | refine lS ?_ GE346.out | refine lS ?_ GE347.out) | exact HB.out)), z_BK366, Q_GW366, Q_GE366, Q_NB345_366, Q_NB366_345, Q_NB346_366, Q_NB366_346, Q_NB347_366, Q_NB366_347, fun h0_ => absurd ((hoff 8 (by kernel_rfl)).symm.trans h0_) (by decide), Q_X7_⟩
   refine steps_cons ?_ ?_
   ·rintro b a w' ⟨gb366, m7_, ha, Q_BK345, Q_BK346, Q_BK347, Q_HB, Q_BK366, Q_GW366, Q_GE366, Q_NB345_366, Q_NB366_345, Q_NB346_366, Q_NB366_346, Q_NB347_366, Q_NB366_347, Q_BK366_e8, Q_X7_⟩ hb_ hon hoff
    refine ⟨_, rfl, fun K hK => ?_⟩
    have e4 : a.tmps[4]? = some (.pointer (some ⟨gb346, 0, none⟩)) := by rw [ha]; exact (putSel_off rfl).trans rfl
    replace ha := MK ha
    have BK345 := MK Q_BK345
    have BK346 := MK Q_BK346
    have BK347 := MK Q_BK347
    have HB := MK Q_HB
    have hc0_ : w'.cell? ⟨gb346, 0, none⟩ = some (.int .i64 a1_0) := (blk_cell BK346.out 0).trans rfl
    have hc1_ : w'.cell? ⟨gb346, 1, none⟩ = some (.int .i64 a1_1) := (blk_cell BK346.out 1).trans rfl
    refine value_ (w1 := w') (v := .agg #[.int .i64 a1_0, .int .i64 a1_1]) (by rfl) rfl ?_ ?_
    ·go_simp
     (try simp only [i64_w])
     try rfl
    refine hK.out _ _ ⟨gb366, m7_, (by rw [ha.out]; exact putSel_upk 2 hb_ rfl rfl rfl), Q_BK345, Q_BK346, Q_BK347, Q_HB, Q_BK366, Q_GW366, Q_GE366, Q_NB345_366, Q_NB366_345, Q_NB346_366, Q_NB366_346, Q_NB347_366, Q_NB366_347, fun h0_ => absurd ((hoff 8 (by kernel_rfl)).symm.trans h0_) (by decide), Q_X7_⟩
   refine steps_cons ?_ ?_
   ·rintro b a w' ⟨gb366, m7_, ha, Q_BK345, Q_BK346, Q_BK347, Q_HB, Q_BK366, Q_GW366, Q_GE366, Q_NB345_366, Q_NB366_345, Q_NB346_366, Q_NB366_346, Q_NB347_366, Q_NB366_347, Q_BK366_e8, Q_X7_⟩ hb_ hon hoff
    refine ⟨_, rfl, fun K hK => ?_⟩
    have e11 : a.tmps[11]? = some (.agg #[.int .i64 a1_0, .int .i64 a1_1]) := by rw [ha]; exact putSel_on (e := (2, 11, .agg #[.int .i64 a1_0, .int .i64 a1_1])) 2 rfl rfl (hon 2 (by kernel_rfl)) rfl
    replace ha := MK ha
    have BK345 := MK Q_BK345
    have BK346 := MK Q_BK346
    have BK347 := MK Q_BK347
    have HB := MK Q_HB
    refine goes_ Try.func16 (by kernel_rfl) rfl #[.agg #[.int .i64 a1_0, .int .i64 a1_1]] (by rfl) rfl rfl (by first | (simp only [List.map_toArray, List.map_cons, List.map_nil, Act.eval, Array.getD_eq_getD_getElem?, Option.getD_some, e11]; done) | (simp only [List.map_toArray, List.map_cons, List.map_nil, Act.eval, Array.getD_eq_getD_getElem?, Option.getD_some, e11]; rfl)) ?_
    with_reducible refine (laws_toGuard.calls a1_0 a1_1 t353 t354 _ A5.out).mono ?_
    rintro e w20 ⟨rfl, hb⟩
    refine ⟨_, rfl, ?_⟩
    have n0_ := MK (blk_below (by (with_reducible repeat (first | refine bN ?_ _ | refine bD ?_ | refine bA ?_ _)); exact BK345.out) hb)
    have n1_ := MK (blk_below (by (with_reducible repeat (first | refine bN ?_ _ | refine bD ?_ | refine bA ?_ _)); exact BK346.out) hb)
    have n2_ := MK (blk_below (by (with_reducible repeat (first | refine bN ?_ _ | refine bD ?_ | refine bA ?_ _)); exact BK347.out) hb)
    have n3_ := MK (below_step (by repeat (first | (with_reducible first | exact HB.out | apply lA | apply lN | apply lD | refine lS ?_ GE345.out | refine lS ?_ GE346.out | refine lS ?_ GE347.out) | exact HB.out)) hb)
    have z_BK366 := fun (h0_ : b 7 = true) (h1_ : b 8 = false) => (show w20.heap[gb366]? = some (.cells #[.bool false, .int .i64 0, .int .i64 0, .int .i64 0, .bool false, .bool false] 52 (0, 0)) from by first | exact (blk_below (g := gb366) (o := .cells #[.bool false, .int .i64 0, .int .i64 0, .int .i64 0, .bool false, .bool false] 52 (0, 0)) (by (with_reducible repeat (first | refine bN ?_ _ | refine bD ?_ | refine bA ?_ _)); exact (Q_BK366 h0_ h1_)) hb))
    clear BK345
    clear BK346
    clear BK347
    clear HB
    have BK345 := n0_
    have BK346 := n1_
    have BK347 := n2_
    have HB := n3_
    clear n0_ n1_ n2_ n3_
    (try clear hb)
    (try clear hb2)
    (try clear hk)
    (try clear hi)
    refine hK.out _ _ ⟨gb366, m7_, (by rw [ha.out]; exact putSel_upk 3 hb_ rfl rfl rfl), (by (with_reducible repeat (first | refine bN ?_ _ | refine bD ?_ | refine bA ?_ _)); exact BK345.out), (by (with_reducible repeat (first | refine bN ?_ _ | refine bD ?_ | refine bA ?_ _)); exact BK346.out), (by (with_reducible repeat (first | refine bN ?_ _ | refine bD ?_ | refine bA ?_ _)); exact BK347.out), (by repeat (first | (with_reducible first | exact HB.out | apply lA | apply lN | apply lD | refine lS ?_ GE345.out | refine lS ?_ GE346.out | refine lS ?_ GE347.out) | exact HB.out)), z_BK366, Q_GW366, Q_GE366, Q_NB345_366, Q_NB366_345, Q_NB346_366, Q_NB366_346, Q_NB347_366, Q_NB366_347, fun h0_ => absurd ((hoff 8 (by kernel_rfl)).symm.trans h0_) (by decide), Q_X7_⟩
   refine steps_cons ?_ ?_
   ·rintro b a w' ⟨gb366, m7_, ha, Q_BK345, Q_BK346, Q_BK347, Q_HB, Q_BK366, Q_GW366, Q_GE366, Q_NB345_366, Q_NB366_345, Q_NB346_366, Q_NB366_346, Q_NB347_366, Q_NB366_347, Q_BK366_e8, Q_X7_⟩ hb_ hon hoff
    refine ⟨_, rfl, fun K hK => ?_⟩
    have e5 : a.tmps[5]? = some (.pointer (some ⟨gb347, 0, none⟩)) := by rw [ha]; exact (putSel_off rfl).trans rfl
    replace ha := MK ha
    have BK345 := MK Q_BK345
    have BK346 := MK Q_BK346
    have BK347 := MK Q_BK347
    have HB := MK Q_HB
    have hc0_ : w'.cell? ⟨gb347, 0, none⟩ = some (.int .i64 a2_0) := (blk_cell BK347.out 0).trans rfl
    have hc1_ : w'.cell? ⟨gb347, 1, none⟩ = some (.int .i64 a2_1) := (blk_cell BK347.out 1).trans rfl
    have hc2_ : w'.cell? ⟨gb347, 2, none⟩ = some (.int .i64 a2_2) := (blk_cell BK347.out 2).trans rfl
    have hc3_ : w'.cell? ⟨gb347, 3, none⟩ = some (.int .i64 a2_3) := (blk_cell BK347.out 3).trans rfl
    have hc4_ : w'.cell? ⟨gb347, 4, none⟩ = some (.bool a2_4) := (blk_cell BK347.out 4).trans rfl
    refine value_ (w1 := w') (v := .agg #[.int .i64 a2_0, .int .i64 a2_1, .int .i64 a2_2, .int .i64 a2_3, .bool a2_4]) (by rfl) rfl ?_ ?_
    ·go_simp
     (try simp only [i64_w])
     try rfl
    refine hK.out _ _ ⟨gb366, m7_, (by rw [ha.out]; exact putSel_upk 4 hb_ rfl rfl rfl), Q_BK345, Q_BK346, Q_BK347, Q_HB, Q_BK366, Q_GW366, Q_GE366, Q_NB345_366, Q_NB366_345, Q_NB346_366, Q_NB366_346, Q_NB347_366, Q_NB366_347, fun h0_ => absurd ((hoff 8 (by kernel_rfl)).symm.trans h0_) (by decide), Q_X7_⟩
   refine steps_cons ?_ ?_
   ·rintro b a w' ⟨gb366, m7_, ha, Q_BK345, Q_BK346, Q_BK347, Q_HB, Q_BK366, Q_GW366, Q_GE366, Q_NB345_366, Q_NB366_345, Q_NB346_366, Q_NB366_346, Q_NB347_366, Q_NB366_347, Q_BK366_e8, Q_X7_⟩ hb_ hon hoff
    refine ⟨_, rfl, fun K hK => ?_⟩
    have e13 : a.tmps[13]? = some (.agg #[.int .i64 a2_0, .int .i64 a2_1, .int .i64 a2_2, .int .i64 a2_3, .bool a2_4]) := by rw [ha]; exact putSel_on (e := (4, 13, .agg #[.int .i64 a2_0, .int .i64 a2_1, .int .i64 a2_2, .int .i64 a2_3, .bool a2_4])) 4 rfl rfl (hon 4 (by kernel_rfl)) rfl
    replace ha := MK ha
    have BK345 := MK Q_BK345
    have BK346 := MK Q_BK346
    have BK347 := MK Q_BK347
    have HB := MK Q_HB
    refine goes_ Try.func22 (by kernel_rfl) rfl #[.agg #[.int .i64 a2_0, .int .i64 a2_1, .int .i64 a2_2, .int .i64 a2_3, .bool a2_4]] (by rfl) rfl rfl (by first | (simp only [List.map_toArray, List.map_cons, List.map_nil, Act.eval, Array.getD_eq_getD_getElem?, Option.getD_some, e13]; done) | (simp only [List.map_toArray, List.map_cons, List.map_nil, Act.eval, Array.getD_eq_getD_getElem?, Option.getD_some, e13]; rfl)) ?_
    with_reducible refine (laws_toFelt.calls a2_0 a2_1 a2_2 a2_3 a2_4 t355 t356 t357 t358 t359 _ A6.out).mono ?_
    rintro e w21 ⟨rfl, hb⟩
    refine ⟨_, rfl, ?_⟩
    have n0_ := MK (blk_below (by (with_reducible repeat (first | refine bN ?_ _ | refine bD ?_ | refine bA ?_ _)); exact BK345.out) hb)
    have n1_ := MK (blk_below (by (with_reducible repeat (first | refine bN ?_ _ | refine bD ?_ | refine bA ?_ _)); exact BK346.out) hb)
    have n2_ := MK (blk_below (by (with_reducible repeat (first | refine bN ?_ _ | refine bD ?_ | refine bA ?_ _)); exact BK347.out) hb)
    have n3_ := MK (below_step (by repeat (first | (with_reducible first | exact HB.out | apply lA | apply lN | apply lD | refine lS ?_ GE345.out | refine lS ?_ GE346.out | refine lS ?_ GE347.out) | exact HB.out)) hb)
    have z_BK366 := fun (h0_ : b 7 = true) (h1_ : b 8 = false) => (show w21.heap[gb366]? = some (.cells #[.bool false, .int .i64 0, .int .i64 0, .int .i64 0, .bool false, .bool false] 52 (0, 0)) from by first | exact (blk_below (g := gb366) (o := .cells #[.bool false, .int .i64 0, .int .i64 0, .int .i64 0, .bool false, .bool false] 52 (0, 0)) (by (with_reducible repeat (first | refine bN ?_ _ | refine bD ?_ | refine bA ?_ _)); exact (Q_BK366 h0_ h1_)) hb))
    clear BK345
    clear BK346
    clear BK347
    clear HB
    have BK345 := n0_
    have BK346 := n1_
    have BK347 := n2_
    have HB := n3_
    clear n0_ n1_ n2_ n3_
    (try clear hb)
    (try clear hb2)
    (try clear hk)
    (try clear hi)
    refine hK.out _ _ ⟨gb366, m7_, (by rw [ha.out]; exact putSel_upk 5 hb_ rfl rfl rfl), (by (with_reducible repeat (first | refine bN ?_ _ | refine bD ?_ | refine bA ?_ _)); exact BK345.out), (by (with_reducible repeat (first | refine bN ?_ _ | refine bD ?_ | refine bA ?_ _)); exact BK346.out), (by (with_reducible repeat (first | refine bN ?_ _ | refine bD ?_ | refine bA ?_ _)); exact BK347.out), (by repeat (first | (with_reducible first | exact HB.out | apply lA | apply lN | apply lD | refine lS ?_ GE345.out | refine lS ?_ GE346.out | refine lS ?_ GE347.out) | exact HB.out)), z_BK366, Q_GW366, Q_GE366, Q_NB345_366, Q_NB366_345, Q_NB346_366, Q_NB366_346, Q_NB347_366, Q_NB366_347, fun h0_ => absurd ((hoff 8 (by kernel_rfl)).symm.trans h0_) (by decide), Q_X7_⟩
   refine steps_cons ?_ ?_
   ·rintro b a w' ⟨gb366, m7_, ha, Q_BK345, Q_BK346, Q_BK347, Q_HB, Q_BK366, Q_GW366, Q_GE366, Q_NB345_366, Q_NB366_345, Q_NB346_366, Q_NB366_346, Q_NB347_366, Q_NB366_347, Q_BK366_e8, Q_X7_⟩ hb_ hon hoff
    refine ⟨_, rfl, fun K hK => ?_⟩
    have e10 : a.tmps[10]? = some (.agg #[.int .i64 t348, .int .i64 t349, .int .i64 t350, .int .i64 t351, .int .i64 t352]) := by rw [ha]; exact putSel_on (e := (1, 10, .agg #[.int .i64 t348, .int .i64 t349, .int .i64 t350, .int .i64 t351, .int .i64 t352])) 1 rfl rfl (hon 1 (by kernel_rfl)) rfl
    have e12 : a.tmps[12]? = some (.agg #[.int .i64 t353, .int .i64 t354]) := by rw [ha]; exact putSel_on (e := (3, 12, .agg #[.int .i64 t353, .int .i64 t354])) 3 rfl rfl (hon 3 (by kernel_rfl)) rfl
    have e14 : a.tmps[14]? = some (.agg #[.int .i64 t355, .int .i64 t356, .int .i64 t357, .int .i64 t358, .bool t359]) := by rw [ha]; exact putSel_on (e := (5, 14, .agg #[.int .i64 t355, .int .i64 t356, .int .i64 t357, .int .i64 t358, .bool t359])) 5 rfl rfl (hon 5 (by kernel_rfl)) rfl
    replace ha := MK ha
    have BK345 := MK Q_BK345
    have BK346 := MK Q_BK346
    have BK347 := MK Q_BK347
    have HB := MK Q_HB
    refine goes_ Try.func35 (by kernel_rfl) rfl #[.agg #[.int .i64 t348, .int .i64 t349, .int .i64 t350, .int .i64 t351, .int .i64 t352], .agg #[.int .i64 t353, .int .i64 t354], .agg #[.int .i64 t355, .int .i64 t356, .int .i64 t357, .int .i64 t358, .bool t359]] (by rfl) rfl rfl (by first | (simp only [List.map_toArray, List.map_cons, List.map_nil, Act.eval, Array.getD_eq_getD_getElem?, Option.getD_some, e10, e12, e14]; done) | (simp only [List.map_toArray, List.map_cons, List.map_nil, Act.eval, Array.getD_eq_getD_getElem?, Option.getD_some, e10, e12, e14]; rfl)) ?_
    with_reducible refine (spec_Tick.calls k t348 t349 t350 t351 t352 t353 t354 t355 t356 t357 t358 t359 t360 t361 t362 t363 t364 t365 _ A7.out).mono ?_
    rintro e w22 ⟨rfl, hb⟩
    refine ⟨_, rfl, ?_⟩
    have n0_ := MK (blk_below (by (with_reducible repeat (first | refine bN ?_ _ | refine bD ?_ | refine bA ?_ _)); exact BK345.out) hb)
    have n1_ := MK (blk_below (by (with_reducible repeat (first | refine bN ?_ _ | refine bD ?_ | refine bA ?_ _)); exact BK346.out) hb)
    have n2_ := MK (blk_below (by (with_reducible repeat (first | refine bN ?_ _ | refine bD ?_ | refine bA ?_ _)); exact BK347.out) hb)
    have n3_ := MK (below_step (by repeat (first | (with_reducible first | exact HB.out | apply lA | apply lN | apply lD | refine lS ?_ GE345.out | refine lS ?_ GE346.out | refine lS ?_ GE347.out) | exact HB.out)) hb)
    have z_BK366 := fun (h0_ : b 7 = true) (h1_ : b 8 = false) => (show w22.heap[gb366]? = some (.cells #[.bool false, .int .i64 0, .int .i64 0, .int .i64 0, .bool false, .bool false] 52 (0, 0)) from by first | exact (blk_below (g := gb366) (o := .cells #[.bool false, .int .i64 0, .int .i64 0, .int .i64 0, .bool false, .bool false] 52 (0, 0)) (by (with_reducible repeat (first | refine bN ?_ _ | refine bD ?_ | refine bA ?_ _)); exact (Q_BK366 h0_ h1_)) hb))
    clear BK345
    clear BK346
    clear BK347
    clear HB
    have BK345 := n0_
    have BK346 := n1_
    have BK347 := n2_
    have HB := n3_
    clear n0_ n1_ n2_ n3_
    (try clear hb)
    (try clear hb2)
    (try clear hk)
    (try clear hi)
    refine hK.out _ _ ⟨gb366, m7_, (by rw [ha.out]; exact putSel_upk 6 hb_ rfl rfl rfl), (by (with_reducible repeat (first | refine bN ?_ _ | refine bD ?_ | refine bA ?_ _)); exact BK345.out), (by (with_reducible repeat (first | refine bN ?_ _ | refine bD ?_ | refine bA ?_ _)); exact BK346.out), (by (with_reducible repeat (first | refine bN ?_ _ | refine bD ?_ | refine bA ?_ _)); exact BK347.out), (by repeat (first | (with_reducible first | exact HB.out | apply lA | apply lN | apply lD | refine lS ?_ GE345.out | refine lS ?_ GE346.out | refine lS ?_ GE347.out) | exact HB.out)), z_BK366, Q_GW366, Q_GE366, Q_NB345_366, Q_NB366_345, Q_NB346_366, Q_NB366_346, Q_NB347_366, Q_NB366_347, fun h0_ => absurd ((hoff 8 (by kernel_rfl)).symm.trans h0_) (by decide), Q_X7_⟩
   refine steps_cons ?_ ?_
   ·rintro b a w' ⟨gb366, m7_, ha, Q_BK345, Q_BK346, Q_BK347, Q_HB, Q_BK366, Q_GW366, Q_GE366, Q_NB345_366, Q_NB366_345, Q_NB346_366, Q_NB366_346, Q_NB347_366, Q_NB366_347, Q_BK366_e8, Q_X7_⟩ hb_ hon hoff
    refine ⟨_, rfl, fun K hK => ?_⟩
    replace ha := MK ha
    have BK345 := MK Q_BK345
    have BK346 := MK Q_BK346
    have BK347 := MK Q_BK347
    have HB := MK Q_HB
    refine box_step ?hg (N := 7) ?hd (cs := #[.bool false, .int .i64 0, .int .i64 0, .int .i64 0, .bool false, .bool false]) (t := 52) ?hr ?_; (case hd => rfl); (case hg => rfl); (case hr => first | (go_simp; done) | (go_simp; rfl))
    intro gb366 hg w18 hbox hb
    have n0_ := MK (blk_below (by (with_reducible repeat (first | refine bN ?_ _ | refine bD ?_ | refine bA ?_ _)); exact BK345.out) hb)
    have n1_ := MK (blk_below (by (with_reducible repeat (first | refine bN ?_ _ | refine bD ?_ | refine bA ?_ _)); exact BK346.out) hb)
    have n2_ := MK (blk_below (by (with_reducible repeat (first | refine bN ?_ _ | refine bD ?_ | refine bA ?_ _)); exact BK347.out) hb)
    have n3_ := MK (below_step (by repeat (first | (with_reducible first | exact HB.out | apply lA | apply lN | apply lD | refine lS ?_ GE345.out | refine lS ?_ GE346.out | refine lS ?_ GE347.out) | exact HB.out)) hb)
    have n4_ := MK (hbox)
    have n5_ := MK ((by rw [hg]; exact (below_size (by repeat (first | (with_reducible first | exact HB.out | apply lA | apply lN | apply lD | refine lS ?_ GE345.out | refine lS ?_ GE346.out | refine lS ?_ GE347.out) | exact HB.out))) : w.heap.size ≤ gb366))
    have n6_ := MK ((by rw [hg]; exact (below_size (by repeat (first | (with_reducible first | exact HB.out | apply lA | apply lN | apply lD | refine lS ?_ GE345.out | refine lS ?_ GE346.out | refine lS ?_ GE347.out) | exact HB.out))) : w.heap.size ≤ gb366))
    have n7_ := MK ((by rw [hg]; exact Nat.ne_of_lt (blk_lt (by (with_reducible repeat (first | refine bN ?_ _ | refine bD ?_ | refine bA ?_ _)); exact BK345.out)) : gb345 ≠ gb366))
    have n8_ := MK ((by rw [hg]; exact Nat.ne_of_gt (blk_lt (by (with_reducible repeat (first | refine bN ?_ _ | refine bD ?_ | refine bA ?_ _)); exact BK345.out)) : gb366 ≠ gb345))
    have n9_ := MK ((by rw [hg]; exact Nat.ne_of_lt (blk_lt (by (with_reducible repeat (first | refine bN ?_ _ | refine bD ?_ | refine bA ?_ _)); exact BK346.out)) : gb346 ≠ gb366))
    have n10_ := MK ((by rw [hg]; exact Nat.ne_of_gt (blk_lt (by (with_reducible repeat (first | refine bN ?_ _ | refine bD ?_ | refine bA ?_ _)); exact BK346.out)) : gb366 ≠ gb346))
    have n11_ := MK ((by rw [hg]; exact Nat.ne_of_lt (blk_lt (by (with_reducible repeat (first | refine bN ?_ _ | refine bD ?_ | refine bA ?_ _)); exact BK347.out)) : gb347 ≠ gb366))
    have n12_ := MK ((by rw [hg]; exact Nat.ne_of_gt (blk_lt (by (with_reducible repeat (first | refine bN ?_ _ | refine bD ?_ | refine bA ?_ _)); exact BK347.out)) : gb366 ≠ gb347))
    clear BK345
    clear BK346
    clear BK347
    clear HB
    have BK345 := n0_
    have BK346 := n1_
    have BK347 := n2_
    have HB := n3_
    have BK366 := n4_
    have GW366 := n5_
    have GE366 := n6_
    have NB345_366 := n7_
    have NB366_345 := n8_
    have NB346_366 := n9_
    have NB366_346 := n10_
    have NB347_366 := n11_
    have NB366_347 := n12_
    clear n0_ n1_ n2_ n3_ n4_ n5_ n6_ n7_ n8_ n9_ n10_ n11_ n12_
    clear hb hbox hg
    refine hK.out _ _ ⟨gb366, (.pointer (some ⟨gb366, 0, none⟩)), (by rw [ha.out]; exact putSel_upk 7 hb_ rfl rfl rfl), (by (with_reducible repeat (first | refine bN ?_ _ | refine bD ?_ | refine bA ?_ _)); exact BK345.out), (by (with_reducible repeat (first | refine bN ?_ _ | refine bD ?_ | refine bA ?_ _)); exact BK346.out), (by (with_reducible repeat (first | refine bN ?_ _ | refine bD ?_ | refine bA ?_ _)); exact BK347.out), (by repeat (first | (with_reducible first | exact HB.out | apply lA | apply lN | apply lD | refine lS ?_ GE345.out | refine lS ?_ GE346.out | refine lS ?_ GE347.out | refine lS ?_ GE366.out) | exact HB.out)), fun _ _ => (by (with_reducible repeat (first | refine bN ?_ _ | refine bD ?_ | refine bA ?_ _)); exact BK366.out), fun _ => GW366.out, fun _ => GE366.out, fun _ => NB345_366.out, fun _ => NB366_345.out, fun _ => NB346_366.out, fun _ => NB366_346.out, fun _ => NB347_366.out, fun _ => NB366_347.out, fun h0_ => absurd ((hoff 8 (by kernel_rfl)).symm.trans h0_) (by decide), fun _ => rfl⟩
   refine steps_cons ?_ ?_
   ·rintro b a w' ⟨gb366, m7_, ha, Q_BK345, Q_BK346, Q_BK347, Q_HB, Q_BK366, Q_GW366, Q_GE366, Q_NB345_366, Q_NB366_345, Q_NB346_366, Q_NB366_346, Q_NB347_366, Q_NB366_347, Q_BK366_e8, Q_X7_⟩ hb_ hon hoff
    refine ⟨_, rfl, fun K hK => ?_⟩
    have e7 : a.tmps[7]? = some (m7_) := by rw [ha]; exact putSel_on (e := (7, 7, m7_)) 7 rfl rfl (hon 7 (by kernel_rfl)) rfl
    rw [Q_X7_ (hon 7 (by kernel_rfl))] at e7
    have e15 : a.tmps[15]? = some (.agg #[.bool t360, .int .i64 t361, .int .i64 t362, .int .i64 t363, .bool t364, .bool t365]) := by rw [ha]; exact putSel_on (e := (6, 15, .agg #[.bool t360, .int .i64 t361, .int .i64 t362, .int .i64 t363, .bool t364, .bool t365])) 6 rfl rfl (hon 6 (by kernel_rfl)) rfl
    replace ha := MK ha
    have BK345 := MK Q_BK345
    have BK346 := MK Q_BK346
    have BK347 := MK Q_BK347
    have HB := MK Q_HB
    have BK366 := MK (Q_BK366 (hon 7 (by kernel_rfl)) hb_)
    have GW366 := MK (Q_GW366 (hon 7 (by kernel_rfl)))
    have GE366 := MK (Q_GE366 (hon 7 (by kernel_rfl)))
    have NB345_366 := MK (Q_NB345_366 (hon 7 (by kernel_rfl)))
    have NB366_345 := MK (Q_NB366_345 (hon 7 (by kernel_rfl)))
    have NB346_366 := MK (Q_NB346_366 (hon 7 (by kernel_rfl)))
    have NB366_346 := MK (Q_NB366_346 (hon 7 (by kernel_rfl)))
    have NB347_366 := MK (Q_NB347_366 (hon 7 (by kernel_rfl)))
    have NB366_347 := MK (Q_NB366_347 (hon 7 (by kernel_rfl)))
    have hs24 : w'.cell? ⟨gb366, 0, none⟩ = some (.bool false) := (blk_cell BK366.out 0).trans rfl
    have hfs24 := blk_frozen BK366.out 0
    have hns24_0 := NB345_366.out
    have hns24_1 := NB346_366.out
    have hns24_2 := NB347_366.out
    have hms24_0 := NB366_345.out
    have hms24_1 := NB366_346.out
    have hms24_2 := NB366_347.out
    have hs25 : w'.cell? ⟨gb366, 1, none⟩ = some (.int .i64 0) := (blk_cell BK366.out 1).trans rfl
    have hfs25 := blk_frozen BK366.out 1
    have hs26 : w'.cell? ⟨gb366, 2, none⟩ = some (.int .i64 0) := (blk_cell BK366.out 2).trans rfl
    have hfs26 := blk_frozen BK366.out 2
    have hs27 : w'.cell? ⟨gb366, 3, none⟩ = some (.int .i64 0) := (blk_cell BK366.out 3).trans rfl
    have hfs27 := blk_frozen BK366.out 3
    have hs28 : w'.cell? ⟨gb366, 4, none⟩ = some (.bool false) := (blk_cell BK366.out 4).trans rfl
    have hfs28 := blk_frozen BK366.out 4
    have hs29 : w'.cell? ⟨gb366, 5, none⟩ = some (.bool false) := (blk_cell BK366.out 5).trans rfl
    have hfs29 := blk_frozen BK366.out 5
    refine skip_ (w1 := ?_) (by rfl) rfl ?_ ?_
    rotate_left
    ·go_simp
     rfl
    refine hK.out _ _ ⟨gb366, m7_, (by rw [ha.out]; exact putSel_none (v := undef) rfl), (by (with_reducible repeat (first | refine bN ?_ _ | refine bD ?_ | refine bA ?_ _)); refine blk_far ?_ NB345_366.out _; (with_reducible repeat (first | refine bN ?_ _ | refine bD ?_ | refine bA ?_ _)); refine blk_far ?_ NB345_366.out _; (with_reducible repeat (first | refine bN ?_ _ | refine bD ?_ | refine bA ?_ _)); refine blk_far ?_ NB345_366.out _; (with_reducible repeat (first | refine bN ?_ _ | refine bD ?_ | refine bA ?_ _)); refine blk_far ?_ NB345_366.out _; (with_reducible repeat (first | refine bN ?_ _ | refine bD ?_ | refine bA ?_ _)); refine blk_far ?_ NB345_366.out _; (with_reducible repeat (first | refine bN ?_ _ | refine bD ?_ | refine bA ?_ _)); refine blk_far ?_ NB345_366.out _; (with_reducible repeat (first | refine bN ?_ _ | refine bD ?_ | refine bA ?_ _)); exact BK345.out), (by (with_reducible repeat (first | refine bN ?_ _ | refine bD ?_ | refine bA ?_ _)); refine blk_far ?_ NB346_366.out _; (with_reducible repeat (first | refine bN ?_ _ | refine bD ?_ | refine bA ?_ _)); refine blk_far ?_ NB346_366.out _; (with_reducible repeat (first | refine bN ?_ _ | refine bD ?_ | refine bA ?_ _)); refine blk_far ?_ NB346_366.out _; (with_reducible repeat (first | refine bN ?_ _ | refine bD ?_ | refine bA ?_ _)); refine blk_far ?_ NB346_366.out _; (with_reducible repeat (first | refine bN ?_ _ | refine bD ?_ | refine bA ?_ _)); refine blk_far ?_ NB346_366.out _; (with_reducible repeat (first | refine bN ?_ _ | refine bD ?_ | refine bA ?_ _)); refine blk_far ?_ NB346_366.out _; (with_reducible repeat (first | refine bN ?_ _ | refine bD ?_ | refine bA ?_ _)); exact BK346.out), (by (with_reducible repeat (first | refine bN ?_ _ | refine bD ?_ | refine bA ?_ _)); refine blk_far ?_ NB347_366.out _; (with_reducible repeat (first | refine bN ?_ _ | refine bD ?_ | refine bA ?_ _)); refine blk_far ?_ NB347_366.out _; (with_reducible repeat (first | refine bN ?_ _ | refine bD ?_ | refine bA ?_ _)); refine blk_far ?_ NB347_366.out _; (with_reducible repeat (first | refine bN ?_ _ | refine bD ?_ | refine bA ?_ _)); refine blk_far ?_ NB347_366.out _; (with_reducible repeat (first | refine bN ?_ _ | refine bD ?_ | refine bA ?_ _)); refine blk_far ?_ NB347_366.out _; (with_reducible repeat (first | refine bN ?_ _ | refine bD ?_ | refine bA ?_ _)); refine blk_far ?_ NB347_366.out _; (with_reducible repeat (first | refine bN ?_ _ | refine bD ?_ | refine bA ?_ _)); exact BK347.out), (by repeat (first | (with_reducible first | exact HB.out | apply lA | apply lN | apply lD | refine lS ?_ GE345.out | refine lS ?_ GE346.out | refine lS ?_ GE347.out | refine lS ?_ GE366.out) | exact HB.out)), fun _ h1_ => absurd ((up_self b 8).symm.trans h1_) (by decide), fun _ => GW366.out, fun _ => GE366.out, fun _ => NB345_366.out, fun _ => NB366_345.out, fun _ => NB346_366.out, fun _ => NB366_346.out, fun _ => NB347_366.out, fun _ => NB366_347.out, fun _ => (by (with_reducible repeat (first | refine bN ?_ _ | refine bD ?_ | refine bA ?_ _)); refine blk_put (cs := #[.bool t360, .int .i64 t361, .int .i64 t362, .int .i64 t363, .bool t364, .bool false]) ?_ 5 _ rfl; (with_reducible repeat (first | refine bN ?_ _ | refine bD ?_ | refine bA ?_ _)); refine blk_put (cs := #[.bool t360, .int .i64 t361, .int .i64 t362, .int .i64 t363, .bool false, .bool false]) ?_ 4 _ rfl; (with_reducible repeat (first | refine bN ?_ _ | refine bD ?_ | refine bA ?_ _)); refine blk_put (cs := #[.bool t360, .int .i64 t361, .int .i64 t362, .int .i64 0, .bool false, .bool false]) ?_ 3 _ rfl; (with_reducible repeat (first | refine bN ?_ _ | refine bD ?_ | refine bA ?_ _)); refine blk_put (cs := #[.bool t360, .int .i64 t361, .int .i64 0, .int .i64 0, .bool false, .bool false]) ?_ 2 _ rfl; (with_reducible repeat (first | refine bN ?_ _ | refine bD ?_ | refine bA ?_ _)); refine blk_put (cs := #[.bool t360, .int .i64 0, .int .i64 0, .int .i64 0, .bool false, .bool false]) ?_ 1 _ rfl; (with_reducible repeat (first | refine bN ?_ _ | refine bD ?_ | refine bA ?_ _)); refine blk_put (cs := #[.bool false, .int .i64 0, .int .i64 0, .int .i64 0, .bool false, .bool false]) ?_ 0 _ rfl; (with_reducible repeat (first | refine bN ?_ _ | refine bD ?_ | refine bA ?_ _)); exact BK366.out), Q_X7_⟩
   exact steps_nil
  rintro b a w29 hall ⟨gb366, m7_, ha, Q_BK345, Q_BK346, Q_BK347, Q_HB, Q_BK366, Q_GW366, Q_GE366, Q_NB345_366, Q_NB366_345, Q_NB346_366, Q_NB366_346, Q_NB347_366, Q_NB366_347, Q_BK366_e8, Q_X7_⟩
  clear BK345 BK346 BK347 HB
  have hb0_ := hall 0 (by kernel_rfl)
  have hb1_ := hall 1 (by kernel_rfl)
  have hb2_ := hall 2 (by kernel_rfl)
  have hb3_ := hall 3 (by kernel_rfl)
  have hb4_ := hall 4 (by kernel_rfl)
  have hb5_ := hall 5 (by kernel_rfl)
  have hb6_ := hall 6 (by kernel_rfl)
  have hb7_ := hall 7 (by kernel_rfl)
  have hb8_ := hall 8 (by kernel_rfl)
  subst ha
  obtain rfl := Q_X7_ hb7_
  simp only [putSel, hb0_, hb1_, hb2_, hb3_, hb4_, hb5_, hb6_, hb7_, hb8_, if_true, Act.put, List.setIfInBounds_toArray, List.set_cons_zero, List.set_cons_succ]
  have BK345 := MK Q_BK345
  clear Q_BK345
  have BK346 := MK Q_BK346
  clear Q_BK346
  have BK347 := MK Q_BK347
  clear Q_BK347
  have HB := MK Q_HB
  clear Q_HB
  clear Q_BK366
  have GW366 := MK (Q_GW366 hb7_)
  clear Q_GW366
  have GE366 := MK (Q_GE366 hb7_)
  clear Q_GE366
  have NB345_366 := MK (Q_NB345_366 hb7_)
  clear Q_NB345_366
  have NB366_345 := MK (Q_NB366_345 hb7_)
  clear Q_NB366_345
  have NB346_366 := MK (Q_NB346_366 hb7_)
  clear Q_NB346_366
  have NB366_346 := MK (Q_NB366_346 hb7_)
  clear Q_NB366_346
  have NB347_366 := MK (Q_NB347_366 hb7_)
  clear Q_NB347_366
  have NB366_347 := MK (Q_NB366_347 hb7_)
  clear Q_NB366_347
  have BK366 := MK (Q_BK366_e8 hb8_)
  clear Q_BK366_e8
  clear hall hb0_ hb1_ hb2_ hb3_ hb4_ hb5_ hb6_ hb7_ hb8_
  try go_wp2
  have n0_ := MK (bD BK345.out)
  have n1_ := MK (bD BK346.out)
  have n2_ := MK (bD BK347.out)
  have n3_ := MK (bD BK366.out)
  have n4_ := MK (lD HB.out)
  clear BK345
  clear BK346
  clear BK347
  clear BK366
  clear HB
  have BK345 := n0_
  have BK346 := n1_
  have BK347 := n2_
  have BK366 := n3_
  have HB := n4_
  clear n0_ n1_ n2_ n3_ n4_
  refine start_ (n := 9) (S := fun w' => True) (ds := []) #[false, false, false, false, false, false, false, false, false] (by kernel_rfl) rfl rfl trivial (fun hHeld => ?_); refine with_tabW laws_FnExactTick.tab2 laws_FnExactTick.bits2 (fun HT_ HW_ => ?_)
  generalize w29.drew = w30 at BK345 BK346 BK347 BK366 HB hHeld ⊢
  refine inv_at [0, 1, 2, 3, 4, 5, 6, 7, 8] (fun a0_ b a w' => ∃ (gb385 : Nat) (m7_ : Value), a = putSel a0_ b [(0, 16, .agg #[.int .i64 a0_0, .int .i64 a0_1, .int .i64 a0_2, .int .i64 a0_3, .int .i64 a0_4]), (1, 17, .agg #[.int .i64 t367, .int .i64 t368, .int .i64 t369, .int .i64 t370, .int .i64 t371]), (2, 18, .agg #[.int .i64 a1_0, .int .i64 a1_1]), (3, 19, .agg #[.int .i64 t372, .int .i64 t373]), (4, 20, .agg #[.int .i64 a2_0, .int .i64 a2_1, .int .i64 a2_2, .int .i64 a2_3, .bool a2_4]), (5, 21, .agg #[.int .i64 t374, .int .i64 t375, .int .i64 t376, .int .i64 t377, .bool t378]), (6, 22, .agg #[.bool t379, .int .i64 t380, .int .i64 t381, .int .i64 t382, .bool t383, .bool t384]), (7, 8, m7_)] ∧ (w'.heap[gb345]? = some (.cells #[.int .i64 a0_0, .int .i64 a0_1, .int .i64 a0_2, .int .i64 a0_3, .int .i64 a0_4] 30 (0, 0))) ∧ (w'.heap[gb346]? = some (.cells #[.int .i64 a1_0, .int .i64 a1_1] 24 (0, 0))) ∧ (w'.heap[gb347]? = some (.cells #[.int .i64 a2_0, .int .i64 a2_1, .int .i64 a2_2, .int .i64 a2_3, .bool a2_4] 36 (0, 0))) ∧ (w'.heap[gb366]? = some (.cells #[.bool t360, .int .i64 t361, .int .i64 t362, .int .i64 t363, .bool t364, .bool t365] 52 (0, 0))) ∧ (Below w.heap.size w w') ∧ (b 7 = true → b 8 = false → w'.heap[gb385]? = some (.cells #[.bool false, .int .i64 0, .int .i64 0, .int .i64 0, .bool false, .bool false] 52 (0, 0))) ∧ (b 7 = true → w.heap.size ≤ gb385) ∧ (b 7 = true → w.heap.size ≤ gb385) ∧ (b 7 = true → gb345 ≠ gb385) ∧ (b 7 = true → gb385 ≠ gb345) ∧ (b 7 = true → gb346 ≠ gb385) ∧ (b 7 = true → gb385 ≠ gb346) ∧ (b 7 = true → gb347 ≠ gb385) ∧ (b 7 = true → gb385 ≠ gb347) ∧ (b 7 = true → gb366 ≠ gb385) ∧ (b 7 = true → gb385 ≠ gb366) ∧ (b 8 = true → w'.heap[gb385]? = some (.cells #[.bool t379, .int .i64 t380, .int .i64 t381, .int .i64 t382, .bool t383, .bool t384] 52 (0, 0))) ∧ (b 7 = true → (m7_ : Value) = .pointer (some ⟨gb385, 0, none⟩))) HT_.out HW_.out (by kernel_rfl) (by kernel_rfl) ?_ ?_ ?_
  ·exact ⟨0, .bool false, by simp only [putSel, Bool.false_eq_true, if_false], BK345.out, BK346.out, BK347.out, BK366.out, HB.out, fun h_ => absurd h_ (by decide), fun h_ => absurd h_ (by decide), fun h_ => absurd h_ (by decide), fun h_ => absurd h_ (by decide), fun h_ => absurd h_ (by decide), fun h_ => absurd h_ (by decide), fun h_ => absurd h_ (by decide), fun h_ => absurd h_ (by decide), fun h_ => absurd h_ (by decide), fun h_ => absurd h_ (by decide), fun h_ => absurd h_ (by decide), fun h_ => absurd h_ (by decide), fun h_ => absurd h_ (by decide)⟩
  ·skip
   clear BK345 BK346 BK347 BK366 HB
   refine steps_cons ?_ ?_
   ·rintro b a w' ⟨gb385, m7_, ha, Q_BK345, Q_BK346, Q_BK347, Q_BK366, Q_HB, Q_BK385, Q_GW385, Q_GE385, Q_NB345_385, Q_NB385_345, Q_NB346_385, Q_NB385_346, Q_NB347_385, Q_NB385_347, Q_NB366_385, Q_NB385_366, Q_BK385_e8, Q_X7_⟩ hb_ hon hoff
    refine ⟨_, rfl, fun K hK => ?_⟩
    have e3 : a.tmps[3]? = some (.pointer (some ⟨gb345, 0, none⟩)) := by rw [ha]; exact (putSel_off rfl).trans rfl
    replace ha := MK ha
    have BK345 := MK Q_BK345
    have BK346 := MK Q_BK346
    have BK347 := MK Q_BK347
    have BK366 := MK Q_BK366
    have HB := MK Q_HB
    have hc0_ : w'.cell? ⟨gb345, 0, none⟩ = some (.int .i64 a0_0) := (blk_cell BK345.out 0).trans rfl
    have hc1_ : w'.cell? ⟨gb345, 1, none⟩ = some (.int .i64 a0_1) := (blk_cell BK345.out 1).trans rfl
    have hc2_ : w'.cell? ⟨gb345, 2, none⟩ = some (.int .i64 a0_2) := (blk_cell BK345.out 2).trans rfl
    have hc3_ : w'.cell? ⟨gb345, 3, none⟩ = some (.int .i64 a0_3) := (blk_cell BK345.out 3).trans rfl
    have hc4_ : w'.cell? ⟨gb345, 4, none⟩ = some (.int .i64 a0_4) := (blk_cell BK345.out 4).trans rfl
    refine value_ (w1 := w') (v := .agg #[.int .i64 a0_0, .int .i64 a0_1, .int .i64 a0_2, .int .i64 a0_3, .int .i64 a0_4]) (by rfl) rfl ?_ ?_
    ·go_simp
     (try simp only [i64_w])
     try rfl
    refine hK.out _ _ ⟨gb385, m7_, (by rw [ha.out]; exact putSel_upk 0 hb_ rfl rfl rfl), Q_BK345, Q_BK346, Q_BK347, Q_BK366, Q_HB, Q_BK385, Q_GW385, Q_GE385, Q_NB345_385, Q_NB385_345, Q_NB346_385, Q_NB385_346, Q_NB347_385, Q_NB385_347, Q_NB366_385, Q_NB385_366, fun h0_ => absurd ((hoff 8 (by kernel_rfl)).symm.trans h0_) (by decide), Q_X7_⟩
   refine steps_cons ?_ ?_
   ·rintro b a w' ⟨gb385, m7_, ha, Q_BK345, Q_BK346, Q_BK347, Q_BK366, Q_HB, Q_BK385, Q_GW385, Q_GE385, Q_NB345_385, Q_NB385_345, Q_NB346_385, Q_NB385_346, Q_NB347_385, Q_NB385_347, Q_NB366_385, Q_NB385_366, Q_BK385_e8, Q_X7_⟩ hb_ hon hoff
    refine ⟨_, rfl, fun K hK => ?_⟩
    have e16 : a.tmps[16]? = some (.agg #[.int .i64 a0_0, .int .i64 a0_1, .int .i64 a0_2, .int .i64 a0_3, .int .i64 a0_4]) := by rw [ha]; exact putSel_on (e := (0, 16, .agg #[.int .i64 a0_0, .int .i64 a0_1, .int .i64 a0_2, .int .i64 a0_3, .int .i64 a0_4])) 0 rfl rfl (hon 0 (by kernel_rfl)) rfl
    replace ha := MK ha
    have BK345 := MK Q_BK345
    have BK346 := MK Q_BK346
    have BK347 := MK Q_BK347
    have BK366 := MK Q_BK366
    have HB := MK Q_HB
    refine goes_ Try.func19 (by kernel_rfl) rfl #[.agg #[.int .i64 a0_0, .int .i64 a0_1, .int .i64 a0_2, .int .i64 a0_3, .int .i64 a0_4]] (by rfl) rfl rfl (by first | (simp only [List.map_toArray, List.map_cons, List.map_nil, Act.eval, Array.getD_eq_getD_getElem?, Option.getD_some, e16]; done) | (simp only [List.map_toArray, List.map_cons, List.map_nil, Act.eval, Array.getD_eq_getD_getElem?, Option.getD_some, e16]; rfl)) ?_
    with_reducible refine (laws_toBrakes.calls a0_0 a0_1 a0_2 a0_3 a0_4 t367 t368 t369 t370 t371 _ A8.out).mono ?_
    rintro e w31 ⟨rfl, hb⟩
    refine ⟨_, rfl, ?_⟩
    have n0_ := MK (blk_below (by (with_reducible repeat (first | refine bN ?_ _ | refine bD ?_ | refine bA ?_ _)); exact BK345.out) hb)
    have n1_ := MK (blk_below (by (with_reducible repeat (first | refine bN ?_ _ | refine bD ?_ | refine bA ?_ _)); exact BK346.out) hb)
    have n2_ := MK (blk_below (by (with_reducible repeat (first | refine bN ?_ _ | refine bD ?_ | refine bA ?_ _)); exact BK347.out) hb)
    have n3_ := MK (blk_below (by (with_reducible repeat (first | refine bN ?_ _ | refine bD ?_ | refine bA ?_ _)); exact BK366.out) hb)
    have n4_ := MK (below_step (by repeat (first | (with_reducible first | exact HB.out | apply lA | apply lN | apply lD | refine lS ?_ GE345.out | refine lS ?_ GE346.out | refine lS ?_ GE347.out | refine lS ?_ GE366.out) | exact HB.out)) hb)
    have z_BK385 := fun (h0_ : b 7 = true) (h1_ : b 8 = false) => (show w31.heap[gb385]? = some (.cells #[.bool false, .int .i64 0, .int .i64 0, .int .i64 0, .bool false, .bool false] 52 (0, 0)) from by first | exact (blk_below (g := gb385) (o := .cells #[.bool false, .int .i64 0, .int .i64 0, .int .i64 0, .bool false, .bool false] 52 (0, 0)) (by (with_reducible repeat (first | refine bN ?_ _ | refine bD ?_ | refine bA ?_ _)); exact (Q_BK385 h0_ h1_)) hb))
    clear BK345
    clear BK346
    clear BK347
    clear BK366
    clear HB
    have BK345 := n0_
    have BK346 := n1_
    have BK347 := n2_
    have BK366 := n3_
    have HB := n4_
    clear n0_ n1_ n2_ n3_ n4_
    (try clear hb)
    (try clear hb2)
    (try clear hk)
    (try clear hi)
    refine hK.out _ _ ⟨gb385, m7_, (by rw [ha.out]; exact putSel_upk 1 hb_ rfl rfl rfl), (by (with_reducible repeat (first | refine bN ?_ _ | refine bD ?_ | refine bA ?_ _)); exact BK345.out), (by (with_reducible repeat (first | refine bN ?_ _ | refine bD ?_ | refine bA ?_ _)); exact BK346.out), (by (with_reducible repeat (first | refine bN ?_ _ | refine bD ?_ | refine bA ?_ _)); exact BK347.out), (by (with_reducible repeat (first | refine bN ?_ _ | refine bD ?_ | refine bA ?_ _)); exact BK366.out), (by repeat (first | (with_reducible first | exact HB.out | apply lA | apply lN | apply lD | refine lS ?_ GE345.out | refine lS ?_ GE346.out | refine lS ?_ GE347.out | refine lS ?_ GE366.out) | exact HB.out)), z_BK385, Q_GW385, Q_GE385, Q_NB345_385, Q_NB385_345, Q_NB346_385, Q_NB385_346, Q_NB347_385, Q_NB385_347, Q_NB366_385, Q_NB385_366, fun h0_ => absurd ((hoff 8 (by kernel_rfl)).symm.trans h0_) (by decide), Q_X7_⟩
   refine steps_cons ?_ ?_
   ·rintro b a w' ⟨gb385, m7_, ha, Q_BK345, Q_BK346, Q_BK347, Q_BK366, Q_HB, Q_BK385, Q_GW385, Q_GE385, Q_NB345_385, Q_NB385_345, Q_NB346_385, Q_NB385_346, Q_NB347_385, Q_NB385_347, Q_NB366_385, Q_NB385_366, Q_BK385_e8, Q_X7_⟩ hb_ hon hoff
    refine ⟨_, rfl, fun K hK => ?_⟩
    have e4 : a.tmps[4]? = some (.pointer (some ⟨gb346, 0, none⟩)) := by rw [ha]; exact (putSel_off rfl).trans rfl
    replace ha := MK ha
    have BK345 := MK Q_BK345
    have BK346 := MK Q_BK346
    have BK347 := MK Q_BK347
    have BK366 := MK Q_BK366
    have HB := MK Q_HB
    have hc0_ : w'.cell? ⟨gb346, 0, none⟩ = some (.int .i64 a1_0) := (blk_cell BK346.out 0).trans rfl
    have hc1_ : w'.cell? ⟨gb346, 1, none⟩ = some (.int .i64 a1_1) := (blk_cell BK346.out 1).trans rfl
    refine value_ (w1 := w') (v := .agg #[.int .i64 a1_0, .int .i64 a1_1]) (by rfl) rfl ?_ ?_
    ·go_simp
     (try simp only [i64_w])
     try rfl
    refine hK.out _ _ ⟨gb385, m7_, (by rw [ha.out]; exact putSel_upk 2 hb_ rfl rfl rfl), Q_BK345, Q_BK346, Q_BK347, Q_BK366, Q_HB, Q_BK385, Q_GW385, Q_GE385, Q_NB345_385, Q_NB385_345, Q_NB346_385, Q_NB385_346, Q_NB347_385, Q_NB385_347, Q_NB366_385, Q_NB385_366, fun h0_ => absurd ((hoff 8 (by kernel_rfl)).symm.trans h0_) (by decide), Q_X7_⟩
   refine steps_cons ?_ ?_
   ·rintro b a w' ⟨gb385, m7_, ha, Q_BK345, Q_BK346, Q_BK347, Q_BK366, Q_HB, Q_BK385, Q_GW385, Q_GE385, Q_NB345_385, Q_NB385_345, Q_NB346_385, Q_NB385_346, Q_NB347_385, Q_NB385_347, Q_NB366_385, Q_NB385_366, Q_BK385_e8, Q_X7_⟩ hb_ hon hoff
    refine ⟨_, rfl, fun K hK => ?_⟩
    have e18 : a.tmps[18]? = some (.agg #[.int .i64 a1_0, .int .i64 a1_1]) := by rw [ha]; exact putSel_on (e := (2, 18, .agg #[.int .i64 a1_0, .int .i64 a1_1])) 2 rfl rfl (hon 2 (by kernel_rfl)) rfl
    replace ha := MK ha
    have BK345 := MK Q_BK345
    have BK346 := MK Q_BK346
    have BK347 := MK Q_BK347
    have BK366 := MK Q_BK366
    have HB := MK Q_HB
    refine goes_ Try.func16 (by kernel_rfl) rfl #[.agg #[.int .i64 a1_0, .int .i64 a1_1]] (by rfl) rfl rfl (by first | (simp only [List.map_toArray, List.map_cons, List.map_nil, Act.eval, Array.getD_eq_getD_getElem?, Option.getD_some, e18]; done) | (simp only [List.map_toArray, List.map_cons, List.map_nil, Act.eval, Array.getD_eq_getD_getElem?, Option.getD_some, e18]; rfl)) ?_
    with_reducible refine (laws_toGuard.calls a1_0 a1_1 t372 t373 _ A9.out).mono ?_
    rintro e w33 ⟨rfl, hb⟩
    refine ⟨_, rfl, ?_⟩
    have n0_ := MK (blk_below (by (with_reducible repeat (first | refine bN ?_ _ | refine bD ?_ | refine bA ?_ _)); exact BK345.out) hb)
    have n1_ := MK (blk_below (by (with_reducible repeat (first | refine bN ?_ _ | refine bD ?_ | refine bA ?_ _)); exact BK346.out) hb)
    have n2_ := MK (blk_below (by (with_reducible repeat (first | refine bN ?_ _ | refine bD ?_ | refine bA ?_ _)); exact BK347.out) hb)
    have n3_ := MK (blk_below (by (with_reducible repeat (first | refine bN ?_ _ | refine bD ?_ | refine bA ?_ _)); exact BK366.out) hb)
    have n4_ := MK (below_step (by repeat (first | (with_reducible first | exact HB.out | apply lA | apply lN | apply lD | refine lS ?_ GE345.out | refine lS ?_ GE346.out | refine lS ?_ GE347.out | refine lS ?_ GE366.out) | exact HB.out)) hb)
    have z_BK385 := fun (h0_ : b 7 = true) (h1_ : b 8 = false) => (show w33.heap[gb385]? = some (.cells #[.bool false, .int .i64 0, .int .i64 0, .int .i64 0, .bool false, .bool false] 52 (0, 0)) from by first | exact (blk_below (g := gb385) (o := .cells #[.bool false, .int .i64 0, .int .i64 0, .int .i64 0, .bool false, .bool false] 52 (0, 0)) (by (with_reducible repeat (first | refine bN ?_ _ | refine bD ?_ | refine bA ?_ _)); exact (Q_BK385 h0_ h1_)) hb))
    clear BK345
    clear BK346
    clear BK347
    clear BK366
    clear HB
    have BK345 := n0_
    have BK346 := n1_
    have BK347 := n2_
    have BK366 := n3_
    have HB := n4_
    clear n0_ n1_ n2_ n3_ n4_
    (try clear hb)
    (try clear hb2)
    (try clear hk)
    (try clear hi)
    refine hK.out _ _ ⟨gb385, m7_, (by rw [ha.out]; exact putSel_upk 3 hb_ rfl rfl rfl), (by (with_reducible repeat (first | refine bN ?_ _ | refine bD ?_ | refine bA ?_ _)); exact BK345.out), (by (with_reducible repeat (first | refine bN ?_ _ | refine bD ?_ | refine bA ?_ _)); exact BK346.out), (by (with_reducible repeat (first | refine bN ?_ _ | refine bD ?_ | refine bA ?_ _)); exact BK347.out), (by (with_reducible repeat (first | refine bN ?_ _ | refine bD ?_ | refine bA ?_ _)); exact BK366.out), (by repeat (first | (with_reducible first | exact HB.out | apply lA | apply lN | apply lD | refine lS ?_ GE345.out | refine lS ?_ GE346.out | refine lS ?_ GE347.out | refine lS ?_ GE366.out) | exact HB.out)), z_BK385, Q_GW385, Q_GE385, Q_NB345_385, Q_NB385_345, Q_NB346_385, Q_NB385_346, Q_NB347_385, Q_NB385_347, Q_NB366_385, Q_NB385_366, fun h0_ => absurd ((hoff 8 (by kernel_rfl)).symm.trans h0_) (by decide), Q_X7_⟩
   refine steps_cons ?_ ?_
   ·rintro b a w' ⟨gb385, m7_, ha, Q_BK345, Q_BK346, Q_BK347, Q_BK366, Q_HB, Q_BK385, Q_GW385, Q_GE385, Q_NB345_385, Q_NB385_345, Q_NB346_385, Q_NB385_346, Q_NB347_385, Q_NB385_347, Q_NB366_385, Q_NB385_366, Q_BK385_e8, Q_X7_⟩ hb_ hon hoff
    refine ⟨_, rfl, fun K hK => ?_⟩
    have e5 : a.tmps[5]? = some (.pointer (some ⟨gb347, 0, none⟩)) := by rw [ha]; exact (putSel_off rfl).trans rfl
    replace ha := MK ha
    have BK345 := MK Q_BK345
    have BK346 := MK Q_BK346
    have BK347 := MK Q_BK347
    have BK366 := MK Q_BK366
    have HB := MK Q_HB
    have hc0_ : w'.cell? ⟨gb347, 0, none⟩ = some (.int .i64 a2_0) := (blk_cell BK347.out 0).trans rfl
    have hc1_ : w'.cell? ⟨gb347, 1, none⟩ = some (.int .i64 a2_1) := (blk_cell BK347.out 1).trans rfl
    have hc2_ : w'.cell? ⟨gb347, 2, none⟩ = some (.int .i64 a2_2) := (blk_cell BK347.out 2).trans rfl
    have hc3_ : w'.cell? ⟨gb347, 3, none⟩ = some (.int .i64 a2_3) := (blk_cell BK347.out 3).trans rfl
    have hc4_ : w'.cell? ⟨gb347, 4, none⟩ = some (.bool a2_4) := (blk_cell BK347.out 4).trans rfl
    refine value_ (w1 := w') (v := .agg #[.int .i64 a2_0, .int .i64 a2_1, .int .i64 a2_2, .int .i64 a2_3, .bool a2_4]) (by rfl) rfl ?_ ?_
    ·go_simp
     (try simp only [i64_w])
     try rfl
    refine hK.out _ _ ⟨gb385, m7_, (by rw [ha.out]; exact putSel_upk 4 hb_ rfl rfl rfl), Q_BK345, Q_BK346, Q_BK347, Q_BK366, Q_HB, Q_BK385, Q_GW385, Q_GE385, Q_NB345_385, Q_NB385_345, Q_NB346_385, Q_NB385_346, Q_NB347_385, Q_NB385_347, Q_NB366_385, Q_NB385_366, fun h0_ => absurd ((hoff 8 (by kernel_rfl)).symm.trans h0_) (by decide), Q_X7_⟩
   refine steps_cons ?_ ?_
   ·rintro b a w' ⟨gb385, m7_, ha, Q_BK345, Q_BK346, Q_BK347, Q_BK366, Q_HB, Q_BK385, Q_GW385, Q_GE385, Q_NB345_385, Q_NB385_345, Q_NB346_385, Q_NB385_346, Q_NB347_385, Q_NB385_347, Q_NB366_385, Q_NB385_366, Q_BK385_e8, Q_X7_⟩ hb_ hon hoff
    refine ⟨_, rfl, fun K hK => ?_⟩
    have e20 : a.tmps[20]? = some (.agg #[.int .i64 a2_0, .int .i64 a2_1, .int .i64 a2_2, .int .i64 a2_3, .bool a2_4]) := by rw [ha]; exact putSel_on (e := (4, 20, .agg #[.int .i64 a2_0, .int .i64 a2_1, .int .i64 a2_2, .int .i64 a2_3, .bool a2_4])) 4 rfl rfl (hon 4 (by kernel_rfl)) rfl
    replace ha := MK ha
    have BK345 := MK Q_BK345
    have BK346 := MK Q_BK346
    have BK347 := MK Q_BK347
    have BK366 := MK Q_BK366
    have HB := MK Q_HB
    refine goes_ Try.func22 (by kernel_rfl) rfl #[.agg #[.int .i64 a2_0, .int .i64 a2_1, .int .i64 a2_2, .int .i64 a2_3, .bool a2_4]] (by rfl) rfl rfl (by first | (simp only [List.map_toArray, List.map_cons, List.map_nil, Act.eval, Array.getD_eq_getD_getElem?, Option.getD_some, e20]; done) | (simp only [List.map_toArray, List.map_cons, List.map_nil, Act.eval, Array.getD_eq_getD_getElem?, Option.getD_some, e20]; rfl)) ?_
    with_reducible refine (laws_toFelt.calls a2_0 a2_1 a2_2 a2_3 a2_4 t374 t375 t376 t377 t378 _ A10.out).mono ?_
    rintro e w34 ⟨rfl, hb⟩
    refine ⟨_, rfl, ?_⟩
    have n0_ := MK (blk_below (by (with_reducible repeat (first | refine bN ?_ _ | refine bD ?_ | refine bA ?_ _)); exact BK345.out) hb)
    have n1_ := MK (blk_below (by (with_reducible repeat (first | refine bN ?_ _ | refine bD ?_ | refine bA ?_ _)); exact BK346.out) hb)
    have n2_ := MK (blk_below (by (with_reducible repeat (first | refine bN ?_ _ | refine bD ?_ | refine bA ?_ _)); exact BK347.out) hb)
    have n3_ := MK (blk_below (by (with_reducible repeat (first | refine bN ?_ _ | refine bD ?_ | refine bA ?_ _)); exact BK366.out) hb)
    have n4_ := MK (below_step (by repeat (first | (with_reducible first | exact HB.out | apply lA | apply lN | apply lD | refine lS ?_ GE345.out | refine lS ?_ GE346.out | refine lS ?_ GE347.out | refine lS ?_ GE366.out) | exact HB.out)) hb)
    have z_BK385 := fun (h0_ : b 7 = true) (h1_ : b 8 = false) => (show w34.heap[gb385]? = some (.cells #[.bool false, .int .i64 0, .int .i64 0, .int .i64 0, .bool false, .bool false] 52 (0, 0)) from by first | exact (blk_below (g := gb385) (o := .cells #[.bool false, .int .i64 0, .int .i64 0, .int .i64 0, .bool false, .bool false] 52 (0, 0)) (by (with_reducible repeat (first | refine bN ?_ _ | refine bD ?_ | refine bA ?_ _)); exact (Q_BK385 h0_ h1_)) hb))
    clear BK345
    clear BK346
    clear BK347
    clear BK366
    clear HB
    have BK345 := n0_
    have BK346 := n1_
    have BK347 := n2_
    have BK366 := n3_
    have HB := n4_
    clear n0_ n1_ n2_ n3_ n4_
    (try clear hb)
    (try clear hb2)
    (try clear hk)
    (try clear hi)
    refine hK.out _ _ ⟨gb385, m7_, (by rw [ha.out]; exact putSel_upk 5 hb_ rfl rfl rfl), (by (with_reducible repeat (first | refine bN ?_ _ | refine bD ?_ | refine bA ?_ _)); exact BK345.out), (by (with_reducible repeat (first | refine bN ?_ _ | refine bD ?_ | refine bA ?_ _)); exact BK346.out), (by (with_reducible repeat (first | refine bN ?_ _ | refine bD ?_ | refine bA ?_ _)); exact BK347.out), (by (with_reducible repeat (first | refine bN ?_ _ | refine bD ?_ | refine bA ?_ _)); exact BK366.out), (by repeat (first | (with_reducible first | exact HB.out | apply lA | apply lN | apply lD | refine lS ?_ GE345.out | refine lS ?_ GE346.out | refine lS ?_ GE347.out | refine lS ?_ GE366.out) | exact HB.out)), z_BK385, Q_GW385, Q_GE385, Q_NB345_385, Q_NB385_345, Q_NB346_385, Q_NB385_346, Q_NB347_385, Q_NB385_347, Q_NB366_385, Q_NB385_366, fun h0_ => absurd ((hoff 8 (by kernel_rfl)).symm.trans h0_) (by decide), Q_X7_⟩
   refine steps_cons ?_ ?_
   ·rintro b a w' ⟨gb385, m7_, ha, Q_BK345, Q_BK346, Q_BK347, Q_BK366, Q_HB, Q_BK385, Q_GW385, Q_GE385, Q_NB345_385, Q_NB385_345, Q_NB346_385, Q_NB385_346, Q_NB347_385, Q_NB385_347, Q_NB366_385, Q_NB385_366, Q_BK385_e8, Q_X7_⟩ hb_ hon hoff
    refine ⟨_, rfl, fun K hK => ?_⟩
    have e17 : a.tmps[17]? = some (.agg #[.int .i64 t367, .int .i64 t368, .int .i64 t369, .int .i64 t370, .int .i64 t371]) := by rw [ha]; exact putSel_on (e := (1, 17, .agg #[.int .i64 t367, .int .i64 t368, .int .i64 t369, .int .i64 t370, .int .i64 t371])) 1 rfl rfl (hon 1 (by kernel_rfl)) rfl
    have e19 : a.tmps[19]? = some (.agg #[.int .i64 t372, .int .i64 t373]) := by rw [ha]; exact putSel_on (e := (3, 19, .agg #[.int .i64 t372, .int .i64 t373])) 3 rfl rfl (hon 3 (by kernel_rfl)) rfl
    have e21 : a.tmps[21]? = some (.agg #[.int .i64 t374, .int .i64 t375, .int .i64 t376, .int .i64 t377, .bool t378]) := by rw [ha]; exact putSel_on (e := (5, 21, .agg #[.int .i64 t374, .int .i64 t375, .int .i64 t376, .int .i64 t377, .bool t378])) 5 rfl rfl (hon 5 (by kernel_rfl)) rfl
    replace ha := MK ha
    have BK345 := MK Q_BK345
    have BK346 := MK Q_BK346
    have BK347 := MK Q_BK347
    have BK366 := MK Q_BK366
    have HB := MK Q_HB
    refine goes_ Try.func36 (by kernel_rfl) rfl #[.agg #[.int .i64 t367, .int .i64 t368, .int .i64 t369, .int .i64 t370, .int .i64 t371], .agg #[.int .i64 t372, .int .i64 t373], .agg #[.int .i64 t374, .int .i64 t375, .int .i64 t376, .int .i64 t377, .bool t378]] (by rfl) rfl rfl (by first | (simp only [List.map_toArray, List.map_cons, List.map_nil, Act.eval, Array.getD_eq_getD_getElem?, Option.getD_some, e17, e19, e21]; done) | (simp only [List.map_toArray, List.map_cons, List.map_nil, Act.eval, Array.getD_eq_getD_getElem?, Option.getD_some, e17, e19, e21]; rfl)) ?_
    with_reducible refine (impl_Tick.calls k t367 t368 t369 t370 t371 t372 t373 t374 t375 t376 t377 t378 t379 t380 t381 t382 t383 t384 _ A11.out).mono ?_
    rintro e w35 ⟨rfl, hb⟩
    refine ⟨_, rfl, ?_⟩
    have n0_ := MK (blk_below (by (with_reducible repeat (first | refine bN ?_ _ | refine bD ?_ | refine bA ?_ _)); exact BK345.out) hb)
    have n1_ := MK (blk_below (by (with_reducible repeat (first | refine bN ?_ _ | refine bD ?_ | refine bA ?_ _)); exact BK346.out) hb)
    have n2_ := MK (blk_below (by (with_reducible repeat (first | refine bN ?_ _ | refine bD ?_ | refine bA ?_ _)); exact BK347.out) hb)
    have n3_ := MK (blk_below (by (with_reducible repeat (first | refine bN ?_ _ | refine bD ?_ | refine bA ?_ _)); exact BK366.out) hb)
    have n4_ := MK (below_step (by repeat (first | (with_reducible first | exact HB.out | apply lA | apply lN | apply lD | refine lS ?_ GE345.out | refine lS ?_ GE346.out | refine lS ?_ GE347.out | refine lS ?_ GE366.out) | exact HB.out)) hb)
    have z_BK385 := fun (h0_ : b 7 = true) (h1_ : b 8 = false) => (show w35.heap[gb385]? = some (.cells #[.bool false, .int .i64 0, .int .i64 0, .int .i64 0, .bool false, .bool false] 52 (0, 0)) from by first | exact (blk_below (g := gb385) (o := .cells #[.bool false, .int .i64 0, .int .i64 0, .int .i64 0, .bool false, .bool false] 52 (0, 0)) (by (with_reducible repeat (first | refine bN ?_ _ | refine bD ?_ | refine bA ?_ _)); exact (Q_BK385 h0_ h1_)) hb))
    clear BK345
    clear BK346
    clear BK347
    clear BK366
    clear HB
    have BK345 := n0_
    have BK346 := n1_
    have BK347 := n2_
    have BK366 := n3_
    have HB := n4_
    clear n0_ n1_ n2_ n3_ n4_
    (try clear hb)
    (try clear hb2)
    (try clear hk)
    (try clear hi)
    refine hK.out _ _ ⟨gb385, m7_, (by rw [ha.out]; exact putSel_upk 6 hb_ rfl rfl rfl), (by (with_reducible repeat (first | refine bN ?_ _ | refine bD ?_ | refine bA ?_ _)); exact BK345.out), (by (with_reducible repeat (first | refine bN ?_ _ | refine bD ?_ | refine bA ?_ _)); exact BK346.out), (by (with_reducible repeat (first | refine bN ?_ _ | refine bD ?_ | refine bA ?_ _)); exact BK347.out), (by (with_reducible repeat (first | refine bN ?_ _ | refine bD ?_ | refine bA ?_ _)); exact BK366.out), (by repeat (first | (with_reducible first | exact HB.out | apply lA | apply lN | apply lD | refine lS ?_ GE345.out | refine lS ?_ GE346.out | refine lS ?_ GE347.out | refine lS ?_ GE366.out) | exact HB.out)), z_BK385, Q_GW385, Q_GE385, Q_NB345_385, Q_NB385_345, Q_NB346_385, Q_NB385_346, Q_NB347_385, Q_NB385_347, Q_NB366_385, Q_NB385_366, fun h0_ => absurd ((hoff 8 (by kernel_rfl)).symm.trans h0_) (by decide), Q_X7_⟩
   refine steps_cons ?_ ?_
   ·rintro b a w' ⟨gb385, m7_, ha, Q_BK345, Q_BK346, Q_BK347, Q_BK366, Q_HB, Q_BK385, Q_GW385, Q_GE385, Q_NB345_385, Q_NB385_345, Q_NB346_385, Q_NB385_346, Q_NB347_385, Q_NB385_347, Q_NB366_385, Q_NB385_366, Q_BK385_e8, Q_X7_⟩ hb_ hon hoff
    refine ⟨_, rfl, fun K hK => ?_⟩
    replace ha := MK ha
    have BK345 := MK Q_BK345
    have BK346 := MK Q_BK346
    have BK347 := MK Q_BK347
    have BK366 := MK Q_BK366
    have HB := MK Q_HB
    refine box_step ?hg (N := 8) ?hd (cs := #[.bool false, .int .i64 0, .int .i64 0, .int .i64 0, .bool false, .bool false]) (t := 52) ?hr ?_; (case hd => rfl); (case hg => rfl); (case hr => first | (go_simp; done) | (go_simp; rfl))
    intro gb385 hg w31 hbox hb
    have n0_ := MK (blk_below (by (with_reducible repeat (first | refine bN ?_ _ | refine bD ?_ | refine bA ?_ _)); exact BK345.out) hb)
    have n1_ := MK (blk_below (by (with_reducible repeat (first | refine bN ?_ _ | refine bD ?_ | refine bA ?_ _)); exact BK346.out) hb)
    have n2_ := MK (blk_below (by (with_reducible repeat (first | refine bN ?_ _ | refine bD ?_ | refine bA ?_ _)); exact BK347.out) hb)
    have n3_ := MK (blk_below (by (with_reducible repeat (first | refine bN ?_ _ | refine bD ?_ | refine bA ?_ _)); exact BK366.out) hb)
    have n4_ := MK (below_step (by repeat (first | (with_reducible first | exact HB.out | apply lA | apply lN | apply lD | refine lS ?_ GE345.out | refine lS ?_ GE346.out | refine lS ?_ GE347.out | refine lS ?_ GE366.out) | exact HB.out)) hb)
    have n5_ := MK (hbox)
    have n6_ := MK ((by rw [hg]; exact (below_size (by repeat (first | (with_reducible first | exact HB.out | apply lA | apply lN | apply lD | refine lS ?_ GE345.out | refine lS ?_ GE346.out | refine lS ?_ GE347.out | refine lS ?_ GE366.out) | exact HB.out))) : w.heap.size ≤ gb385))
    have n7_ := MK ((by rw [hg]; exact (below_size (by repeat (first | (with_reducible first | exact HB.out | apply lA | apply lN | apply lD | refine lS ?_ GE345.out | refine lS ?_ GE346.out | refine lS ?_ GE347.out | refine lS ?_ GE366.out) | exact HB.out))) : w.heap.size ≤ gb385))
    have n8_ := MK ((by rw [hg]; exact Nat.ne_of_lt (blk_lt (by (with_reducible repeat (first | refine bN ?_ _ | refine bD ?_ | refine bA ?_ _)); exact BK345.out)) : gb345 ≠ gb385))
    have n9_ := MK ((by rw [hg]; exact Nat.ne_of_gt (blk_lt (by (with_reducible repeat (first | refine bN ?_ _ | refine bD ?_ | refine bA ?_ _)); exact BK345.out)) : gb385 ≠ gb345))
    have n10_ := MK ((by rw [hg]; exact Nat.ne_of_lt (blk_lt (by (with_reducible repeat (first | refine bN ?_ _ | refine bD ?_ | refine bA ?_ _)); exact BK346.out)) : gb346 ≠ gb385))
    have n11_ := MK ((by rw [hg]; exact Nat.ne_of_gt (blk_lt (by (with_reducible repeat (first | refine bN ?_ _ | refine bD ?_ | refine bA ?_ _)); exact BK346.out)) : gb385 ≠ gb346))
    have n12_ := MK ((by rw [hg]; exact Nat.ne_of_lt (blk_lt (by (with_reducible repeat (first | refine bN ?_ _ | refine bD ?_ | refine bA ?_ _)); exact BK347.out)) : gb347 ≠ gb385))
    have n13_ := MK ((by rw [hg]; exact Nat.ne_of_gt (blk_lt (by (with_reducible repeat (first | refine bN ?_ _ | refine bD ?_ | refine bA ?_ _)); exact BK347.out)) : gb385 ≠ gb347))
    have n14_ := MK ((by rw [hg]; exact Nat.ne_of_lt (blk_lt (by (with_reducible repeat (first | refine bN ?_ _ | refine bD ?_ | refine bA ?_ _)); exact BK366.out)) : gb366 ≠ gb385))
    have n15_ := MK ((by rw [hg]; exact Nat.ne_of_gt (blk_lt (by (with_reducible repeat (first | refine bN ?_ _ | refine bD ?_ | refine bA ?_ _)); exact BK366.out)) : gb385 ≠ gb366))
    clear BK345
    clear BK346
    clear BK347
    clear BK366
    clear HB
    have BK345 := n0_
    have BK346 := n1_
    have BK347 := n2_
    have BK366 := n3_
    have HB := n4_
    have BK385 := n5_
    have GW385 := n6_
    have GE385 := n7_
    have NB345_385 := n8_
    have NB385_345 := n9_
    have NB346_385 := n10_
    have NB385_346 := n11_
    have NB347_385 := n12_
    have NB385_347 := n13_
    have NB366_385 := n14_
    have NB385_366 := n15_
    clear n0_ n1_ n2_ n3_ n4_ n5_ n6_ n7_ n8_ n9_ n10_ n11_ n12_ n13_ n14_ n15_
    clear hb hbox hg
    refine hK.out _ _ ⟨gb385, (.pointer (some ⟨gb385, 0, none⟩)), (by rw [ha.out]; exact putSel_upk 7 hb_ rfl rfl rfl), (by (with_reducible repeat (first | refine bN ?_ _ | refine bD ?_ | refine bA ?_ _)); exact BK345.out), (by (with_reducible repeat (first | refine bN ?_ _ | refine bD ?_ | refine bA ?_ _)); exact BK346.out), (by (with_reducible repeat (first | refine bN ?_ _ | refine bD ?_ | refine bA ?_ _)); exact BK347.out), (by (with_reducible repeat (first | refine bN ?_ _ | refine bD ?_ | refine bA ?_ _)); exact BK366.out), (by repeat (first | (with_reducible first | exact HB.out | apply lA | apply lN | apply lD | refine lS ?_ GE345.out | refine lS ?_ GE346.out | refine lS ?_ GE347.out | refine lS ?_ GE366.out | refine lS ?_ GE385.out) | exact HB.out)), fun _ _ => (by (with_reducible repeat (first | refine bN ?_ _ | refine bD ?_ | refine bA ?_ _)); exact BK385.out), fun _ => GW385.out, fun _ => GE385.out, fun _ => NB345_385.out, fun _ => NB385_345.out, fun _ => NB346_385.out, fun _ => NB385_346.out, fun _ => NB347_385.out, fun _ => NB385_347.out, fun _ => NB366_385.out, fun _ => NB385_366.out, fun h0_ => absurd ((hoff 8 (by kernel_rfl)).symm.trans h0_) (by decide), fun _ => rfl⟩
   refine steps_cons ?_ ?_
   ·rintro b a w' ⟨gb385, m7_, ha, Q_BK345, Q_BK346, Q_BK347, Q_BK366, Q_HB, Q_BK385, Q_GW385, Q_GE385, Q_NB345_385, Q_NB385_345, Q_NB346_385, Q_NB385_346, Q_NB347_385, Q_NB385_347, Q_NB366_385, Q_NB385_366, Q_BK385_e8, Q_X7_⟩ hb_ hon hoff
    refine ⟨_, rfl, fun K hK => ?_⟩
    have e8 : a.tmps[8]? = some (m7_) := by rw [ha]; exact putSel_on (e := (7, 8, m7_)) 7 rfl rfl (hon 7 (by kernel_rfl)) rfl
    rw [Q_X7_ (hon 7 (by kernel_rfl))] at e8
    have e22 : a.tmps[22]? = some (.agg #[.bool t379, .int .i64 t380, .int .i64 t381, .int .i64 t382, .bool t383, .bool t384]) := by rw [ha]; exact putSel_on (e := (6, 22, .agg #[.bool t379, .int .i64 t380, .int .i64 t381, .int .i64 t382, .bool t383, .bool t384])) 6 rfl rfl (hon 6 (by kernel_rfl)) rfl
    replace ha := MK ha
    have BK345 := MK Q_BK345
    have BK346 := MK Q_BK346
    have BK347 := MK Q_BK347
    have BK366 := MK Q_BK366
    have HB := MK Q_HB
    have BK385 := MK (Q_BK385 (hon 7 (by kernel_rfl)) hb_)
    have GW385 := MK (Q_GW385 (hon 7 (by kernel_rfl)))
    have GE385 := MK (Q_GE385 (hon 7 (by kernel_rfl)))
    have NB345_385 := MK (Q_NB345_385 (hon 7 (by kernel_rfl)))
    have NB385_345 := MK (Q_NB385_345 (hon 7 (by kernel_rfl)))
    have NB346_385 := MK (Q_NB346_385 (hon 7 (by kernel_rfl)))
    have NB385_346 := MK (Q_NB385_346 (hon 7 (by kernel_rfl)))
    have NB347_385 := MK (Q_NB347_385 (hon 7 (by kernel_rfl)))
    have NB385_347 := MK (Q_NB385_347 (hon 7 (by kernel_rfl)))
    have NB366_385 := MK (Q_NB366_385 (hon 7 (by kernel_rfl)))
    have NB385_366 := MK (Q_NB385_366 (hon 7 (by kernel_rfl)))
    have hs37 : w'.cell? ⟨gb385, 0, none⟩ = some (.bool false) := (blk_cell BK385.out 0).trans rfl
    have hfs37 := blk_frozen BK385.out 0
    have hns37_0 := NB345_385.out
    have hns37_1 := NB346_385.out
    have hns37_2 := NB347_385.out
    have hns37_3 := NB366_385.out
    have hms37_0 := NB385_345.out
    have hms37_1 := NB385_346.out
    have hms37_2 := NB385_347.out
    have hms37_3 := NB385_366.out
    have hs38 : w'.cell? ⟨gb385, 1, none⟩ = some (.int .i64 0) := (blk_cell BK385.out 1).trans rfl
    have hfs38 := blk_frozen BK385.out 1
    have hs39 : w'.cell? ⟨gb385, 2, none⟩ = some (.int .i64 0) := (blk_cell BK385.out 2).trans rfl
    have hfs39 := blk_frozen BK385.out 2
    have hs40 : w'.cell? ⟨gb385, 3, none⟩ = some (.int .i64 0) := (blk_cell BK385.out 3).trans rfl
    have hfs40 := blk_frozen BK385.out 3
    have hs41 : w'.cell? ⟨gb385, 4, none⟩ = some (.bool false) := (blk_cell BK385.out 4).trans rfl
    have hfs41 := blk_frozen BK385.out 4
    have hs42 : w'.cell? ⟨gb385, 5, none⟩ = some (.bool false) := (blk_cell BK385.out 5).trans rfl
    have hfs42 := blk_frozen BK385.out 5
    refine skip_ (w1 := ?_) (by rfl) rfl ?_ ?_
    rotate_left
    ·go_simp
     rfl
    refine hK.out _ _ ⟨gb385, m7_, (by rw [ha.out]; exact putSel_none (v := undef) rfl), (by (with_reducible repeat (first | refine bN ?_ _ | refine bD ?_ | refine bA ?_ _)); refine blk_far ?_ NB345_385.out _; (with_reducible repeat (first | refine bN ?_ _ | refine bD ?_ | refine bA ?_ _)); refine blk_far ?_ NB345_385.out _; (with_reducible repeat (first | refine bN ?_ _ | refine bD ?_ | refine bA ?_ _)); refine blk_far ?_ NB345_385.out _; (with_reducible repeat (first | refine bN ?_ _ | refine bD ?_ | refine bA ?_ _)); refine blk_far ?_ NB345_385.out _; (with_reducible repeat (first | refine bN ?_ _ | refine bD ?_ | refine bA ?_ _)); refine blk_far ?_ NB345_385.out _; (with_reducible repeat (first | refine bN ?_ _ | refine bD ?_ | refine bA ?_ _)); refine blk_far ?_ NB345_385.out _; (with_reducible repeat (first | refine bN ?_ _ | refine bD ?_ | refine bA ?_ _)); exact BK345.out), (by (with_reducible repeat (first | refine bN ?_ _ | refine bD ?_ | refine bA ?_ _)); refine blk_far ?_ NB346_385.out _; (with_reducible repeat (first | refine bN ?_ _ | refine bD ?_ | refine bA ?_ _)); refine blk_far ?_ NB346_385.out _; (with_reducible repeat (first | refine bN ?_ _ | refine bD ?_ | refine bA ?_ _)); refine blk_far ?_ NB346_385.out _; (with_reducible repeat (first | refine bN ?_ _ | refine bD ?_ | refine bA ?_ _)); refine blk_far ?_ NB346_385.out _; (with_reducible repeat (first | refine bN ?_ _ | refine bD ?_ | refine bA ?_ _)); refine blk_far ?_ NB346_385.out _; (with_reducible repeat (first | refine bN ?_ _ | refine bD ?_ | refine bA ?_ _)); refine blk_far ?_ NB346_385.out _; (with_reducible repeat (first | refine bN ?_ _ | refine bD ?_ | refine bA ?_ _)); exact BK346.out), (by (with_reducible repeat (first | refine bN ?_ _ | refine bD ?_ | refine bA ?_ _)); refine blk_far ?_ NB347_385.out _; (with_reducible repeat (first | refine bN ?_ _ | refine bD ?_ | refine bA ?_ _)); refine blk_far ?_ NB347_385.out _; (with_reducible repeat (first | refine bN ?_ _ | refine bD ?_ | refine bA ?_ _)); refine blk_far ?_ NB347_385.out _; (with_reducible repeat (first | refine bN ?_ _ | refine bD ?_ | refine bA ?_ _)); refine blk_far ?_ NB347_385.out _; (with_reducible repeat (first | refine bN ?_ _ | refine bD ?_ | refine bA ?_ _)); refine blk_far ?_ NB347_385.out _; (with_reducible repeat (first | refine bN ?_ _ | refine bD ?_ | refine bA ?_ _)); refine blk_far ?_ NB347_385.out _; (with_reducible repeat (first | refine bN ?_ _ | refine bD ?_ | refine bA ?_ _)); exact BK347.out), (by (with_reducible repeat (first | refine bN ?_ _ | refine bD ?_ | refine bA ?_ _)); refine blk_far ?_ NB366_385.out _; (with_reducible repeat (first | refine bN ?_ _ | refine bD ?_ | refine bA ?_ _)); refine blk_far ?_ NB366_385.out _; (with_reducible repeat (first | refine bN ?_ _ | refine bD ?_ | refine bA ?_ _)); refine blk_far ?_ NB366_385.out _; (with_reducible repeat (first | refine bN ?_ _ | refine bD ?_ | refine bA ?_ _)); refine blk_far ?_ NB366_385.out _; (with_reducible repeat (first | refine bN ?_ _ | refine bD ?_ | refine bA ?_ _)); refine blk_far ?_ NB366_385.out _; (with_reducible repeat (first | refine bN ?_ _ | refine bD ?_ | refine bA ?_ _)); refine blk_far ?_ NB366_385.out _; (with_reducible repeat (first | refine bN ?_ _ | refine bD ?_ | refine bA ?_ _)); exact BK366.out), (by repeat (first | (with_reducible first | exact HB.out | apply lA | apply lN | apply lD | refine lS ?_ GE345.out | refine lS ?_ GE346.out | refine lS ?_ GE347.out | refine lS ?_ GE366.out | refine lS ?_ GE385.out) | exact HB.out)), fun _ h1_ => absurd ((up_self b 8).symm.trans h1_) (by decide), fun _ => GW385.out, fun _ => GE385.out, fun _ => NB345_385.out, fun _ => NB385_345.out, fun _ => NB346_385.out, fun _ => NB385_346.out, fun _ => NB347_385.out, fun _ => NB385_347.out, fun _ => NB366_385.out, fun _ => NB385_366.out, fun _ => (by (with_reducible repeat (first | refine bN ?_ _ | refine bD ?_ | refine bA ?_ _)); refine blk_put (cs := #[.bool t379, .int .i64 t380, .int .i64 t381, .int .i64 t382, .bool t383, .bool false]) ?_ 5 _ rfl; (with_reducible repeat (first | refine bN ?_ _ | refine bD ?_ | refine bA ?_ _)); refine blk_put (cs := #[.bool t379, .int .i64 t380, .int .i64 t381, .int .i64 t382, .bool false, .bool false]) ?_ 4 _ rfl; (with_reducible repeat (first | refine bN ?_ _ | refine bD ?_ | refine bA ?_ _)); refine blk_put (cs := #[.bool t379, .int .i64 t380, .int .i64 t381, .int .i64 0, .bool false, .bool false]) ?_ 3 _ rfl; (with_reducible repeat (first | refine bN ?_ _ | refine bD ?_ | refine bA ?_ _)); refine blk_put (cs := #[.bool t379, .int .i64 t380, .int .i64 0, .int .i64 0, .bool false, .bool false]) ?_ 2 _ rfl; (with_reducible repeat (first | refine bN ?_ _ | refine bD ?_ | refine bA ?_ _)); refine blk_put (cs := #[.bool t379, .int .i64 0, .int .i64 0, .int .i64 0, .bool false, .bool false]) ?_ 1 _ rfl; (with_reducible repeat (first | refine bN ?_ _ | refine bD ?_ | refine bA ?_ _)); refine blk_put (cs := #[.bool false, .int .i64 0, .int .i64 0, .int .i64 0, .bool false, .bool false]) ?_ 0 _ rfl; (with_reducible repeat (first | refine bN ?_ _ | refine bD ?_ | refine bA ?_ _)); exact BK385.out), Q_X7_⟩
   exact steps_nil
  rintro b a w42 hall ⟨gb385, m7_, ha, Q_BK345, Q_BK346, Q_BK347, Q_BK366, Q_HB, Q_BK385, Q_GW385, Q_GE385, Q_NB345_385, Q_NB385_345, Q_NB346_385, Q_NB385_346, Q_NB347_385, Q_NB385_347, Q_NB366_385, Q_NB385_366, Q_BK385_e8, Q_X7_⟩
  clear BK345 BK346 BK347 BK366 HB
  have hb0_ := hall 0 (by kernel_rfl)
  have hb1_ := hall 1 (by kernel_rfl)
  have hb2_ := hall 2 (by kernel_rfl)
  have hb3_ := hall 3 (by kernel_rfl)
  have hb4_ := hall 4 (by kernel_rfl)
  have hb5_ := hall 5 (by kernel_rfl)
  have hb6_ := hall 6 (by kernel_rfl)
  have hb7_ := hall 7 (by kernel_rfl)
  have hb8_ := hall 8 (by kernel_rfl)
  subst ha
  obtain rfl := Q_X7_ hb7_
  simp only [putSel, hb0_, hb1_, hb2_, hb3_, hb4_, hb5_, hb6_, hb7_, hb8_, if_true, Act.put, List.setIfInBounds_toArray, List.set_cons_zero, List.set_cons_succ]
  have BK345 := MK Q_BK345
  clear Q_BK345
  have BK346 := MK Q_BK346
  clear Q_BK346
  have BK347 := MK Q_BK347
  clear Q_BK347
  have BK366 := MK Q_BK366
  clear Q_BK366
  have HB := MK Q_HB
  clear Q_HB
  clear Q_BK385
  have GW385 := MK (Q_GW385 hb7_)
  clear Q_GW385
  have GE385 := MK (Q_GE385 hb7_)
  clear Q_GE385
  have NB345_385 := MK (Q_NB345_385 hb7_)
  clear Q_NB345_385
  have NB385_345 := MK (Q_NB385_345 hb7_)
  clear Q_NB385_345
  have NB346_385 := MK (Q_NB346_385 hb7_)
  clear Q_NB346_385
  have NB385_346 := MK (Q_NB385_346 hb7_)
  clear Q_NB385_346
  have NB347_385 := MK (Q_NB347_385 hb7_)
  clear Q_NB347_385
  have NB385_347 := MK (Q_NB385_347 hb7_)
  clear Q_NB385_347
  have NB366_385 := MK (Q_NB366_385 hb7_)
  clear Q_NB366_385
  have NB385_366 := MK (Q_NB385_366 hb7_)
  clear Q_NB385_366
  have BK385 := MK (Q_BK385_e8 hb8_)
  clear Q_BK385_e8
  clear hall hb0_ hb1_ hb2_ hb3_ hb4_ hb5_ hb6_ hb7_ hb8_
  have hnb43 := NB385_345.out
  have hnc43 := NB345_385.out
  have hnb44 := NB385_346.out
  have hnc44 := NB346_385.out
  have hnb45 := NB385_347.out
  have hnc45 := NB347_385.out
  have hnb46 := NB385_366.out
  have hnc46 := NB366_385.out
  have hcz47_0 : w42.cell? ⟨gb385, 0, none⟩ = some (.bool t379) := (blk_cell BK385.out 0).trans rfl
  have hcz47_1 : w42.cell? ⟨gb385, 1, none⟩ = some (.int .i64 t380) := (blk_cell BK385.out 1).trans rfl
  have hcz47_2 : w42.cell? ⟨gb385, 2, none⟩ = some (.int .i64 t381) := (blk_cell BK385.out 2).trans rfl
  have hcz47_3 : w42.cell? ⟨gb385, 3, none⟩ = some (.int .i64 t382) := (blk_cell BK385.out 3).trans rfl
  have hcz47_4 : w42.cell? ⟨gb385, 4, none⟩ = some (.bool t383) := (blk_cell BK385.out 4).trans rfl
  have hcz47_5 : w42.cell? ⟨gb385, 5, none⟩ = some (.bool t384) := (blk_cell BK385.out 5).trans rfl
  obtain ⟨hfz47_0, hfz47_1, hfz47_2, hfz47_3, hfz47_4, hfz47_5⟩ := bf6 BK385.out
  have hnb48 := NB366_345.out
  have hnc48 := NB345_366.out
  have hnb49 := NB366_346.out
  have hnc49 := NB346_366.out
  have hnb50 := NB366_347.out
  have hnc50 := NB347_366.out
  have hcz51_0 : w42.cell? ⟨gb366, 0, none⟩ = some (.bool t360) := (blk_cell BK366.out 0).trans rfl
  have hcz51_1 : w42.cell? ⟨gb366, 1, none⟩ = some (.int .i64 t361) := (blk_cell BK366.out 1).trans rfl
  have hcz51_2 : w42.cell? ⟨gb366, 2, none⟩ = some (.int .i64 t362) := (blk_cell BK366.out 2).trans rfl
  have hcz51_3 : w42.cell? ⟨gb366, 3, none⟩ = some (.int .i64 t363) := (blk_cell BK366.out 3).trans rfl
  have hcz51_4 : w42.cell? ⟨gb366, 4, none⟩ = some (.bool t364) := (blk_cell BK366.out 4).trans rfl
  have hcz51_5 : w42.cell? ⟨gb366, 5, none⟩ = some (.bool t365) := (blk_cell BK366.out 5).trans rfl
  obtain ⟨hfz51_0, hfz51_1, hfz51_2, hfz51_3, hfz51_4, hfz51_5⟩ := bf6 BK366.out
  try go_wp2_with (first | ((with_reducible refine gate_callee (f := 37) rfl ?_); refine goesL_ (some 25) rfl rfl Try.func37 (by kernel_rfl) rfl #[.agg #[.bool t379, .int .i64 t380, .int .i64 t381, .int .i64 t382, .bool t383, .bool t384], .agg #[.bool t360, .int .i64 t361, .int .i64 t362, .int .i64 t363, .bool t364, .bool t365]] rfl (by (try simp only [List.map_toArray, List.map_cons, List.map_nil]); first | done | rfl | (simp only [List.length_drop, List.length_take]; rfl)) ?_; (with_reducible refine (laws_eqSaid.calls t379 t380 t381 t382 t383 t384 t360 t361 t362 t363 t364 t365 true _ A12.out).mono ?_); rintro e w52 ⟨rfl, hb⟩; refine ⟨_, rfl, ?_⟩; have n0_ := MK (blk_below (by (with_reducible repeat (first | refine bN ?_ _ | refine bD ?_ | refine bA ?_ _)); exact BK345.out) hb); have n1_ := MK (blk_below (by (with_reducible repeat (first | refine bN ?_ _ | refine bD ?_ | refine bA ?_ _)); exact BK346.out) hb); have n2_ := MK (blk_below (by (with_reducible repeat (first | refine bN ?_ _ | refine bD ?_ | refine bA ?_ _)); exact BK347.out) hb); have n3_ := MK (blk_below (by (with_reducible repeat (first | refine bN ?_ _ | refine bD ?_ | refine bA ?_ _)); exact BK366.out) hb); have n4_ := MK (blk_below (by (with_reducible repeat (first | refine bN ?_ _ | refine bD ?_ | refine bA ?_ _)); exact BK385.out) hb); have n5_ := MK (below_step (by repeat (first | (with_reducible first | exact HB.out | apply lA | apply lN | apply lD | refine lS ?_ GE345.out | refine lS ?_ GE346.out | refine lS ?_ GE347.out | refine lS ?_ GE366.out | refine lS ?_ GE385.out) | exact HB.out)) hb); clear BK345; clear BK346; clear BK347; clear BK366; clear BK385; clear HB; have BK345 := n0_; have BK346 := n1_; have BK347 := n2_; have BK366 := n3_; have BK385 := n4_; have HB := n5_; clear n0_ n1_ n2_ n3_ n4_ n5_; (try clear hb); (try clear hb2); (try clear hk); (try clear hi)))
  go_ret
  exact ⟨by first | rfl | (simp [errW_none, errW_some] <;> rfl) | (simp [*, errW_none, errW_some] <;> rfl), by repeat (first | (with_reducible first | exact HB.out | apply lA | apply lN | apply lD | refine lS ?_ GE345.out | refine lS ?_ GE346.out | refine lS ?_ GE347.out | refine lS ?_ GE366.out | refine lS ?_ GE385.out) | exact HB.out)⟩
 ·replace c13 := Bool.eq_false_iff.mpr c13
  subst c13
  have H1 : (some false) = some r := by rw [if_neg (show ¬ (false = true) by decide)] at H; exact H
  clear H
  have H := H1
  clear H1
  obtain rfl := Option.some.inj H
  go_enter Try.func12, Try.ntmps12
  try go_wp2_with (first | ((with_reducible refine gate_dst (N := 3) rfl ?_); refine box_event ?hg (N := 3) ?hd (cs := #[.int .i64 a0_0, .int .i64 a0_1, .int .i64 a0_2, .int .i64 a0_3, .int .i64 a0_4]) (t := 30) ?hr ?_; (case hd => rfl); (case hg => rfl); (case hr => first | (go_simp; done) | (go_simp; rfl)); intro gb345 hg w53 hbox hb; have n0_ := MK (below_step (by repeat (first | (with_reducible first | exact HB.out | apply lA | apply lN | apply lD) | exact HB.out)) hb); have n1_ := MK (hbox); have n2_ := MK ((by rw [hg]; exact (below_size (by repeat (first | (with_reducible first | exact HB.out | apply lA | apply lN | apply lD) | exact HB.out))) : w.heap.size ≤ gb345)); have n3_ := MK ((by rw [hg]; exact (below_size (by repeat (first | (with_reducible first | exact HB.out | apply lA | apply lN | apply lD) | exact HB.out))) : w.heap.size ≤ gb345)); clear HB; have HB := n0_; have BK345 := n1_; have GW345 := n2_; have GE345 := n3_; clear n0_ n1_ n2_ n3_; clear hb hbox hg) | ((with_reducible refine gate_dst (N := 4) rfl ?_); refine box_event ?hg (N := 4) ?hd (cs := #[.int .i64 a1_0, .int .i64 a1_1]) (t := 24) ?hr ?_; (case hd => rfl); (case hg => rfl); (case hr => first | (go_simp; done) | (go_simp; rfl)); intro gb346 hg w54 hbox hb; have n0_ := MK (blk_below (by (with_reducible repeat (first | refine bN ?_ _ | refine bD ?_ | refine bA ?_ _)); exact BK345.out) hb); have n1_ := MK (below_step (by repeat (first | (with_reducible first | exact HB.out | apply lA | apply lN | apply lD | refine lS ?_ GE345.out) | exact HB.out)) hb); have n2_ := MK (hbox); have n3_ := MK ((by rw [hg]; exact (below_size (by repeat (first | (with_reducible first | exact HB.out | apply lA | apply lN | apply lD | refine lS ?_ GE345.out) | exact HB.out))) : w.heap.size ≤ gb346)); have n4_ := MK ((by rw [hg]; exact (below_size (by repeat (first | (with_reducible first | exact HB.out | apply lA | apply lN | apply lD | refine lS ?_ GE345.out) | exact HB.out))) : w.heap.size ≤ gb346)); have n5_ := MK ((by rw [hg]; exact Nat.ne_of_lt (blk_lt (by (with_reducible repeat (first | refine bN ?_ _ | refine bD ?_ | refine bA ?_ _)); exact BK345.out)) : gb345 ≠ gb346)); have n6_ := MK ((by rw [hg]; exact Nat.ne_of_gt (blk_lt (by (with_reducible repeat (first | refine bN ?_ _ | refine bD ?_ | refine bA ?_ _)); exact BK345.out)) : gb346 ≠ gb345)); clear BK345; clear HB; have BK345 := n0_; have HB := n1_; have BK346 := n2_; have GW346 := n3_; have GE346 := n4_; have NB345_346 := n5_; have NB346_345 := n6_; clear n0_ n1_ n2_ n3_ n4_ n5_ n6_; clear hb hbox hg) | ((with_reducible refine gate_dst (N := 5) rfl ?_); refine box_event ?hg (N := 5) ?hd (cs := #[.int .i64 a2_0, .int .i64 a2_1, .int .i64 a2_2, .int .i64 a2_3, .bool a2_4]) (t := 36) ?hr ?_; (case hd => rfl); (case hg => rfl); (case hr => first | (go_simp; done) | (go_simp; rfl)); intro gb347 hg w55 hbox hb; have n0_ := MK (blk_below (by (with_reducible repeat (first | refine bN ?_ _ | refine bD ?_ | refine bA ?_ _)); exact BK345.out) hb); have n1_ := MK (blk_below (by (with_reducible repeat (first | refine bN ?_ _ | refine bD ?_ | refine bA ?_ _)); exact BK346.out) hb); have n2_ := MK (below_step (by repeat (first | (with_reducible first | exact HB.out | apply lA | apply lN | apply lD | refine lS ?_ GE345.out | refine lS ?_ GE346.out) | exact HB.out)) hb); have n3_ := MK (hbox); have n4_ := MK ((by rw [hg]; exact (below_size (by repeat (first | (with_reducible first | exact HB.out | apply lA | apply lN | apply lD | refine lS ?_ GE345.out | refine lS ?_ GE346.out) | exact HB.out))) : w.heap.size ≤ gb347)); have n5_ := MK ((by rw [hg]; exact (below_size (by repeat (first | (with_reducible first | exact HB.out | apply lA | apply lN | apply lD | refine lS ?_ GE345.out | refine lS ?_ GE346.out) | exact HB.out))) : w.heap.size ≤ gb347)); have n6_ := MK ((by rw [hg]; exact Nat.ne_of_lt (blk_lt (by (with_reducible repeat (first | refine bN ?_ _ | refine bD ?_ | refine bA ?_ _)); exact BK345.out)) : gb345 ≠ gb347)); have n7_ := MK ((by rw [hg]; exact Nat.ne_of_gt (blk_lt (by (with_reducible repeat (first | refine bN ?_ _ | refine bD ?_ | refine bA ?_ _)); exact BK345.out)) : gb347 ≠ gb345)); have n8_ := MK ((by rw [hg]; exact Nat.ne_of_lt (blk_lt (by (with_reducible repeat (first | refine bN ?_ _ | refine bD ?_ | refine bA ?_ _)); exact BK346.out)) : gb346 ≠ gb347)); have n9_ := MK ((by rw [hg]; exact Nat.ne_of_gt (blk_lt (by (with_reducible repeat (first | refine bN ?_ _ | refine bD ?_ | refine bA ?_ _)); exact BK346.out)) : gb347 ≠ gb346)); clear BK345; clear BK346; clear HB; have BK345 := n0_; have BK346 := n1_; have HB := n2_; have BK347 := n3_; have GW347 := n4_; have GE347 := n5_; have NB345_347 := n6_; have NB347_345 := n7_; have NB346_347 := n8_; have NB347_346 := n9_; clear n0_ n1_ n2_ n3_ n4_ n5_ n6_ n7_ n8_ n9_; clear hb hbox hg))
  have n0_ := MK (bD BK345.out)
  have n1_ := MK (bD BK346.out)
  have n2_ := MK (bD BK347.out)
  have n3_ := MK (lD HB.out)
  clear BK345
  clear BK346
  clear BK347
  clear HB
  have BK345 := n0_
  have BK346 := n1_
  have BK347 := n2_
  have HB := n3_
  clear n0_ n1_ n2_ n3_
  refine start_ (n := 9) (S := fun w' => True) (ds := []) #[false, false, false, false, false, false, false, false, false] (by kernel_rfl) rfl rfl trivial (fun hHeld => ?_); refine with_tabW laws_FnExactTick.tab1 laws_FnExactTick.bits1 (fun HT_ HW_ => ?_)
  generalize w55.drew = w56 at BK345 BK346 BK347 HB hHeld ⊢
  refine inv_at [0, 1, 2, 3, 4, 5, 6, 7, 8] (fun a0_ b a w' => ∃ (gb366 : Nat) (m7_ : Value), a = putSel a0_ b [(0, 9, .agg #[.int .i64 a0_0, .int .i64 a0_1, .int .i64 a0_2, .int .i64 a0_3, .int .i64 a0_4]), (1, 10, .agg #[.int .i64 t348, .int .i64 t349, .int .i64 t350, .int .i64 t351, .int .i64 t352]), (2, 11, .agg #[.int .i64 a1_0, .int .i64 a1_1]), (3, 12, .agg #[.int .i64 t353, .int .i64 t354]), (4, 13, .agg #[.int .i64 a2_0, .int .i64 a2_1, .int .i64 a2_2, .int .i64 a2_3, .bool a2_4]), (5, 14, .agg #[.int .i64 t355, .int .i64 t356, .int .i64 t357, .int .i64 t358, .bool t359]), (6, 15, .agg #[.bool t360, .int .i64 t361, .int .i64 t362, .int .i64 t363, .bool t364, .bool t365]), (7, 7, m7_)] ∧ (w'.heap[gb345]? = some (.cells #[.int .i64 a0_0, .int .i64 a0_1, .int .i64 a0_2, .int .i64 a0_3, .int .i64 a0_4] 30 (0, 0))) ∧ (w'.heap[gb346]? = some (.cells #[.int .i64 a1_0, .int .i64 a1_1] 24 (0, 0))) ∧ (w'.heap[gb347]? = some (.cells #[.int .i64 a2_0, .int .i64 a2_1, .int .i64 a2_2, .int .i64 a2_3, .bool a2_4] 36 (0, 0))) ∧ (Below w.heap.size w w') ∧ (b 7 = true → b 8 = false → w'.heap[gb366]? = some (.cells #[.bool false, .int .i64 0, .int .i64 0, .int .i64 0, .bool false, .bool false] 52 (0, 0))) ∧ (b 7 = true → w.heap.size ≤ gb366) ∧ (b 7 = true → w.heap.size ≤ gb366) ∧ (b 7 = true → gb345 ≠ gb366) ∧ (b 7 = true → gb366 ≠ gb345) ∧ (b 7 = true → gb346 ≠ gb366) ∧ (b 7 = true → gb366 ≠ gb346) ∧ (b 7 = true → gb347 ≠ gb366) ∧ (b 7 = true → gb366 ≠ gb347) ∧ (b 8 = true → w'.heap[gb366]? = some (.cells #[.bool t360, .int .i64 t361, .int .i64 t362, .int .i64 t363, .bool t364, .bool t365] 52 (0, 0))) ∧ (b 7 = true → (m7_ : Value) = .pointer (some ⟨gb366, 0, none⟩))) HT_.out HW_.out (by kernel_rfl) (by kernel_rfl) ?_ ?_ ?_
  ·exact ⟨0, .bool false, by simp only [putSel, Bool.false_eq_true, if_false], BK345.out, BK346.out, BK347.out, HB.out, fun h_ => absurd h_ (by decide), fun h_ => absurd h_ (by decide), fun h_ => absurd h_ (by decide), fun h_ => absurd h_ (by decide), fun h_ => absurd h_ (by decide), fun h_ => absurd h_ (by decide), fun h_ => absurd h_ (by decide), fun h_ => absurd h_ (by decide), fun h_ => absurd h_ (by decide), fun h_ => absurd h_ (by decide), fun h_ => absurd h_ (by decide)⟩
  ·skip
   clear BK345 BK346 BK347 HB
   refine steps_cons ?_ ?_
   ·rintro b a w' ⟨gb366, m7_, ha, Q_BK345, Q_BK346, Q_BK347, Q_HB, Q_BK366, Q_GW366, Q_GE366, Q_NB345_366, Q_NB366_345, Q_NB346_366, Q_NB366_346, Q_NB347_366, Q_NB366_347, Q_BK366_e8, Q_X7_⟩ hb_ hon hoff
    refine ⟨_, rfl, fun K hK => ?_⟩
    have e3 : a.tmps[3]? = some (.pointer (some ⟨gb345, 0, none⟩)) := by rw [ha]; exact (putSel_off rfl).trans rfl
    replace ha := MK ha
    have BK345 := MK Q_BK345
    have BK346 := MK Q_BK346
    have BK347 := MK Q_BK347
    have HB := MK Q_HB
    have hc0_ : w'.cell? ⟨gb345, 0, none⟩ = some (.int .i64 a0_0) := (blk_cell BK345.out 0).trans rfl
    have hc1_ : w'.cell? ⟨gb345, 1, none⟩ = some (.int .i64 a0_1) := (blk_cell BK345.out 1).trans rfl
    have hc2_ : w'.cell? ⟨gb345, 2, none⟩ = some (.int .i64 a0_2) := (blk_cell BK345.out 2).trans rfl
    have hc3_ : w'.cell? ⟨gb345, 3, none⟩ = some (.int .i64 a0_3) := (blk_cell BK345.out 3).trans rfl
    have hc4_ : w'.cell? ⟨gb345, 4, none⟩ = some (.int .i64 a0_4) := (blk_cell BK345.out 4).trans rfl
    refine value_ (w1 := w') (v := .agg #[.int .i64 a0_0, .int .i64 a0_1, .int .i64 a0_2, .int .i64 a0_3, .int .i64 a0_4]) (by rfl) rfl ?_ ?_
    ·go_simp
     (try simp only [i64_w])
     try rfl
    refine hK.out _ _ ⟨gb366, m7_, (by rw [ha.out]; exact putSel_upk 0 hb_ rfl rfl rfl), Q_BK345, Q_BK346, Q_BK347, Q_HB, Q_BK366, Q_GW366, Q_GE366, Q_NB345_366, Q_NB366_345, Q_NB346_366, Q_NB366_346, Q_NB347_366, Q_NB366_347, fun h0_ => absurd ((hoff 8 (by kernel_rfl)).symm.trans h0_) (by decide), Q_X7_⟩
   refine steps_cons ?_ ?_
   ·rintro b a w' ⟨gb366, m7_, ha, Q_BK345, Q_BK346, Q_BK347, Q_HB, Q_BK366, Q_GW366, Q_GE366, Q_NB345_366, Q_NB366_345, Q_NB346_366, Q_NB366_346, Q_NB347_366, Q_NB366_347, Q_BK366_e8, Q_X7_⟩ hb_ hon hoff
    refine ⟨_, rfl, fun K hK => ?_⟩
    have e9 : a.tmps[9]? = some (.agg #[.int .i64 a0_0, .int .i64 a0_1, .int .i64 a0_2, .int .i64 a0_3, .int .i64 a0_4]) := by rw [ha]; exact putSel_on (e := (0, 9, .agg #[.int .i64 a0_0, .int .i64 a0_1, .int .i64 a0_2, .int .i64 a0_3, .int .i64 a0_4])) 0 rfl rfl (hon 0 (by kernel_rfl)) rfl
    replace ha := MK ha
    have BK345 := MK Q_BK345
    have BK346 := MK Q_BK346
    have BK347 := MK Q_BK347
    have HB := MK Q_HB
    refine goes_ Try.func19 (by kernel_rfl) rfl #[.agg #[.int .i64 a0_0, .int .i64 a0_1, .int .i64 a0_2, .int .i64 a0_3, .int .i64 a0_4]] (by rfl) rfl rfl (by first | (simp only [List.map_toArray, List.map_cons, List.map_nil, Act.eval, Array.getD_eq_getD_getElem?, Option.getD_some, e9]; done) | (simp only [List.map_toArray, List.map_cons, List.map_nil, Act.eval, Array.getD_eq_getD_getElem?, Option.getD_some, e9]; rfl)) ?_
    with_reducible refine (laws_toBrakes.calls a0_0 a0_1 a0_2 a0_3 a0_4 t348 t349 t350 t351 t352 _ A4.out).mono ?_
    rintro e w57 ⟨rfl, hb⟩
    refine ⟨_, rfl, ?_⟩
    have n0_ := MK (blk_below (by (with_reducible repeat (first | refine bN ?_ _ | refine bD ?_ | refine bA ?_ _)); exact BK345.out) hb)
    have n1_ := MK (blk_below (by (with_reducible repeat (first | refine bN ?_ _ | refine bD ?_ | refine bA ?_ _)); exact BK346.out) hb)
    have n2_ := MK (blk_below (by (with_reducible repeat (first | refine bN ?_ _ | refine bD ?_ | refine bA ?_ _)); exact BK347.out) hb)
    have n3_ := MK (below_step (by repeat (first | (with_reducible first | exact HB.out | apply lA | apply lN | apply lD | refine lS ?_ GE345.out | refine lS ?_ GE346.out | refine lS ?_ GE347.out) | exact HB.out)) hb)
    have z_BK366 := fun (h0_ : b 7 = true) (h1_ : b 8 = false) => (show w57.heap[gb366]? = some (.cells #[.bool false, .int .i64 0, .int .i64 0, .int .i64 0, .bool false, .bool false] 52 (0, 0)) from by first | exact (blk_below (g := gb366) (o := .cells #[.bool false, .int .i64 0, .int .i64 0, .int .i64 0, .bool false, .bool false] 52 (0, 0)) (by (with_reducible repeat (first | refine bN ?_ _ | refine bD ?_ | refine bA ?_ _)); exact (Q_BK366 h0_ h1_)) hb))
    clear BK345
    clear BK346
    clear BK347
    clear HB
    have BK345 := n0_
    have BK346 := n1_
    have BK347 := n2_
    have HB := n3_
    clear n0_ n1_ n2_ n3_
    (try clear hb)
    (try clear hb2)
    (try clear hk)
    (try clear hi)
    refine hK.out _ _ ⟨gb366, m7_, (by rw [ha.out]; exact putSel_upk 1 hb_ rfl rfl rfl), (by (with_reducible repeat (first | refine bN ?_ _ | refine bD ?_ | refine bA ?_ _)); exact BK345.out), (by (with_reducible repeat (first | refine bN ?_ _ | refine bD ?_ | refine bA ?_ _)); exact BK346.out), (by (with_reducible repeat (first | refine bN ?_ _ | refine bD ?_ | refine bA ?_ _)); exact BK347.out), (by repeat (first | (with_reducible first | exact HB.out | apply lA | apply lN | apply lD | refine lS ?_ GE345.out | refine lS ?_ GE346.out | refine lS ?_ GE347.out) | exact HB.out)), z_BK366, Q_GW366, Q_GE366, Q_NB345_366, Q_NB366_345, Q_NB346_366, Q_NB366_346, Q_NB347_366, Q_NB366_347, fun h0_ => absurd ((hoff 8 (by kernel_rfl)).symm.trans h0_) (by decide), Q_X7_⟩
   refine steps_cons ?_ ?_
   ·rintro b a w' ⟨gb366, m7_, ha, Q_BK345, Q_BK346, Q_BK347, Q_HB, Q_BK366, Q_GW366, Q_GE366, Q_NB345_366, Q_NB366_345, Q_NB346_366, Q_NB366_346, Q_NB347_366, Q_NB366_347, Q_BK366_e8, Q_X7_⟩ hb_ hon hoff
    refine ⟨_, rfl, fun K hK => ?_⟩
    have e4 : a.tmps[4]? = some (.pointer (some ⟨gb346, 0, none⟩)) := by rw [ha]; exact (putSel_off rfl).trans rfl
    replace ha := MK ha
    have BK345 := MK Q_BK345
    have BK346 := MK Q_BK346
    have BK347 := MK Q_BK347
    have HB := MK Q_HB
    have hc0_ : w'.cell? ⟨gb346, 0, none⟩ = some (.int .i64 a1_0) := (blk_cell BK346.out 0).trans rfl
    have hc1_ : w'.cell? ⟨gb346, 1, none⟩ = some (.int .i64 a1_1) := (blk_cell BK346.out 1).trans rfl
    refine value_ (w1 := w') (v := .agg #[.int .i64 a1_0, .int .i64 a1_1]) (by rfl) rfl ?_ ?_
    ·go_simp
     (try simp only [i64_w])
     try rfl
    refine hK.out _ _ ⟨gb366, m7_, (by rw [ha.out]; exact putSel_upk 2 hb_ rfl rfl rfl), Q_BK345, Q_BK346, Q_BK347, Q_HB, Q_BK366, Q_GW366, Q_GE366, Q_NB345_366, Q_NB366_345, Q_NB346_366, Q_NB366_346, Q_NB347_366, Q_NB366_347, fun h0_ => absurd ((hoff 8 (by kernel_rfl)).symm.trans h0_) (by decide), Q_X7_⟩
   refine steps_cons ?_ ?_
   ·rintro b a w' ⟨gb366, m7_, ha, Q_BK345, Q_BK346, Q_BK347, Q_HB, Q_BK366, Q_GW366, Q_GE366, Q_NB345_366, Q_NB366_345, Q_NB346_366, Q_NB366_346, Q_NB347_366, Q_NB366_347, Q_BK366_e8, Q_X7_⟩ hb_ hon hoff
    refine ⟨_, rfl, fun K hK => ?_⟩
    have e11 : a.tmps[11]? = some (.agg #[.int .i64 a1_0, .int .i64 a1_1]) := by rw [ha]; exact putSel_on (e := (2, 11, .agg #[.int .i64 a1_0, .int .i64 a1_1])) 2 rfl rfl (hon 2 (by kernel_rfl)) rfl
    replace ha := MK ha
    have BK345 := MK Q_BK345
    have BK346 := MK Q_BK346
    have BK347 := MK Q_BK347
    have HB := MK Q_HB
    refine goes_ Try.func16 (by kernel_rfl) rfl #[.agg #[.int .i64 a1_0, .int .i64 a1_1]] (by rfl) rfl rfl (by first | (simp only [List.map_toArray, List.map_cons, List.map_nil, Act.eval, Array.getD_eq_getD_getElem?, Option.getD_some, e11]; done) | (simp only [List.map_toArray, List.map_cons, List.map_nil, Act.eval, Array.getD_eq_getD_getElem?, Option.getD_some, e11]; rfl)) ?_
    with_reducible refine (laws_toGuard.calls a1_0 a1_1 t353 t354 _ A5.out).mono ?_
    rintro e w59 ⟨rfl, hb⟩
    refine ⟨_, rfl, ?_⟩
    have n0_ := MK (blk_below (by (with_reducible repeat (first | refine bN ?_ _ | refine bD ?_ | refine bA ?_ _)); exact BK345.out) hb)
    have n1_ := MK (blk_below (by (with_reducible repeat (first | refine bN ?_ _ | refine bD ?_ | refine bA ?_ _)); exact BK346.out) hb)
    have n2_ := MK (blk_below (by (with_reducible repeat (first | refine bN ?_ _ | refine bD ?_ | refine bA ?_ _)); exact BK347.out) hb)
    have n3_ := MK (below_step (by repeat (first | (with_reducible first | exact HB.out | apply lA | apply lN | apply lD | refine lS ?_ GE345.out | refine lS ?_ GE346.out | refine lS ?_ GE347.out) | exact HB.out)) hb)
    have z_BK366 := fun (h0_ : b 7 = true) (h1_ : b 8 = false) => (show w59.heap[gb366]? = some (.cells #[.bool false, .int .i64 0, .int .i64 0, .int .i64 0, .bool false, .bool false] 52 (0, 0)) from by first | exact (blk_below (g := gb366) (o := .cells #[.bool false, .int .i64 0, .int .i64 0, .int .i64 0, .bool false, .bool false] 52 (0, 0)) (by (with_reducible repeat (first | refine bN ?_ _ | refine bD ?_ | refine bA ?_ _)); exact (Q_BK366 h0_ h1_)) hb))
    clear BK345
    clear BK346
    clear BK347
    clear HB
    have BK345 := n0_
    have BK346 := n1_
    have BK347 := n2_
    have HB := n3_
    clear n0_ n1_ n2_ n3_
    (try clear hb)
    (try clear hb2)
    (try clear hk)
    (try clear hi)
    refine hK.out _ _ ⟨gb366, m7_, (by rw [ha.out]; exact putSel_upk 3 hb_ rfl rfl rfl), (by (with_reducible repeat (first | refine bN ?_ _ | refine bD ?_ | refine bA ?_ _)); exact BK345.out), (by (with_reducible repeat (first | refine bN ?_ _ | refine bD ?_ | refine bA ?_ _)); exact BK346.out), (by (with_reducible repeat (first | refine bN ?_ _ | refine bD ?_ | refine bA ?_ _)); exact BK347.out), (by repeat (first | (with_reducible first | exact HB.out | apply lA | apply lN | apply lD | refine lS ?_ GE345.out | refine lS ?_ GE346.out | refine lS ?_ GE347.out) | exact HB.out)), z_BK366, Q_GW366, Q_GE366, Q_NB345_366, Q_NB366_345, Q_NB346_366, Q_NB366_346, Q_NB347_366, Q_NB366_347, fun h0_ => absurd ((hoff 8 (by kernel_rfl)).symm.trans h0_) (by decide), Q_X7_⟩
   refine steps_cons ?_ ?_
   ·rintro b a w' ⟨gb366, m7_, ha, Q_BK345, Q_BK346, Q_BK347, Q_HB, Q_BK366, Q_GW366, Q_GE366, Q_NB345_366, Q_NB366_345, Q_NB346_366, Q_NB366_346, Q_NB347_366, Q_NB366_347, Q_BK366_e8, Q_X7_⟩ hb_ hon hoff
    refine ⟨_, rfl, fun K hK => ?_⟩
    have e5 : a.tmps[5]? = some (.pointer (some ⟨gb347, 0, none⟩)) := by rw [ha]; exact (putSel_off rfl).trans rfl
    replace ha := MK ha
    have BK345 := MK Q_BK345
    have BK346 := MK Q_BK346
    have BK347 := MK Q_BK347
    have HB := MK Q_HB
    have hc0_ : w'.cell? ⟨gb347, 0, none⟩ = some (.int .i64 a2_0) := (blk_cell BK347.out 0).trans rfl
    have hc1_ : w'.cell? ⟨gb347, 1, none⟩ = some (.int .i64 a2_1) := (blk_cell BK347.out 1).trans rfl
    have hc2_ : w'.cell? ⟨gb347, 2, none⟩ = some (.int .i64 a2_2) := (blk_cell BK347.out 2).trans rfl
    have hc3_ : w'.cell? ⟨gb347, 3, none⟩ = some (.int .i64 a2_3) := (blk_cell BK347.out 3).trans rfl
    have hc4_ : w'.cell? ⟨gb347, 4, none⟩ = some (.bool a2_4) := (blk_cell BK347.out 4).trans rfl
    refine value_ (w1 := w') (v := .agg #[.int .i64 a2_0, .int .i64 a2_1, .int .i64 a2_2, .int .i64 a2_3, .bool a2_4]) (by rfl) rfl ?_ ?_
    ·go_simp
     (try simp only [i64_w])
     try rfl
    refine hK.out _ _ ⟨gb366, m7_, (by rw [ha.out]; exact putSel_upk 4 hb_ rfl rfl rfl), Q_BK345, Q_BK346, Q_BK347, Q_HB, Q_BK366, Q_GW366, Q_GE366, Q_NB345_366, Q_NB366_345, Q_NB346_366, Q_NB366_346, Q_NB347_366, Q_NB366_347, fun h0_ => absurd ((hoff 8 (by kernel_rfl)).symm.trans h0_) (by decide), Q_X7_⟩
   refine steps_cons ?_ ?_
   ·rintro b a w' ⟨gb366, m7_, ha, Q_BK345, Q_BK346, Q_BK347, Q_HB, Q_BK366, Q_GW366, Q_GE366, Q_NB345_366, Q_NB366_345, Q_NB346_366, Q_NB366_346, Q_NB347_366, Q_NB366_347, Q_BK366_e8, Q_X7_⟩ hb_ hon hoff
    refine ⟨_, rfl, fun K hK => ?_⟩
    have e13 : a.tmps[13]? = some (.agg #[.int .i64 a2_0, .int .i64 a2_1, .int .i64 a2_2, .int .i64 a2_3, .bool a2_4]) := by rw [ha]; exact putSel_on (e := (4, 13, .agg #[.int .i64 a2_0, .int .i64 a2_1, .int .i64 a2_2, .int .i64 a2_3, .bool a2_4])) 4 rfl rfl (hon 4 (by kernel_rfl)) rfl
    replace ha := MK ha
    have BK345 := MK Q_BK345
    have BK346 := MK Q_BK346
    have BK347 := MK Q_BK347
    have HB := MK Q_HB
    refine goes_ Try.func22 (by kernel_rfl) rfl #[.agg #[.int .i64 a2_0, .int .i64 a2_1, .int .i64 a2_2, .int .i64 a2_3, .bool a2_4]] (by rfl) rfl rfl (by first | (simp only [List.map_toArray, List.map_cons, List.map_nil, Act.eval, Array.getD_eq_getD_getElem?, Option.getD_some, e13]; done) | (simp only [List.map_toArray, List.map_cons, List.map_nil, Act.eval, Array.getD_eq_getD_getElem?, Option.getD_some, e13]; rfl)) ?_
    with_reducible refine (laws_toFelt.calls a2_0 a2_1 a2_2 a2_3 a2_4 t355 t356 t357 t358 t359 _ A6.out).mono ?_
    rintro e w60 ⟨rfl, hb⟩
    refine ⟨_, rfl, ?_⟩
    have n0_ := MK (blk_below (by (with_reducible repeat (first | refine bN ?_ _ | refine bD ?_ | refine bA ?_ _)); exact BK345.out) hb)
    have n1_ := MK (blk_below (by (with_reducible repeat (first | refine bN ?_ _ | refine bD ?_ | refine bA ?_ _)); exact BK346.out) hb)
    have n2_ := MK (blk_below (by (with_reducible repeat (first | refine bN ?_ _ | refine bD ?_ | refine bA ?_ _)); exact BK347.out) hb)
    have n3_ := MK (below_step (by repeat (first | (with_reducible first | exact HB.out | apply lA | apply lN | apply lD | refine lS ?_ GE345.out | refine lS ?_ GE346.out | refine lS ?_ GE347.out) | exact HB.out)) hb)
    have z_BK366 := fun (h0_ : b 7 = true) (h1_ : b 8 = false) => (show w60.heap[gb366]? = some (.cells #[.bool false, .int .i64 0, .int .i64 0, .int .i64 0, .bool false, .bool false] 52 (0, 0)) from by first | exact (blk_below (g := gb366) (o := .cells #[.bool false, .int .i64 0, .int .i64 0, .int .i64 0, .bool false, .bool false] 52 (0, 0)) (by (with_reducible repeat (first | refine bN ?_ _ | refine bD ?_ | refine bA ?_ _)); exact (Q_BK366 h0_ h1_)) hb))
    clear BK345
    clear BK346
    clear BK347
    clear HB
    have BK345 := n0_
    have BK346 := n1_
    have BK347 := n2_
    have HB := n3_
    clear n0_ n1_ n2_ n3_
    (try clear hb)
    (try clear hb2)
    (try clear hk)
    (try clear hi)
    refine hK.out _ _ ⟨gb366, m7_, (by rw [ha.out]; exact putSel_upk 5 hb_ rfl rfl rfl), (by (with_reducible repeat (first | refine bN ?_ _ | refine bD ?_ | refine bA ?_ _)); exact BK345.out), (by (with_reducible repeat (first | refine bN ?_ _ | refine bD ?_ | refine bA ?_ _)); exact BK346.out), (by (with_reducible repeat (first | refine bN ?_ _ | refine bD ?_ | refine bA ?_ _)); exact BK347.out), (by repeat (first | (with_reducible first | exact HB.out | apply lA | apply lN | apply lD | refine lS ?_ GE345.out | refine lS ?_ GE346.out | refine lS ?_ GE347.out) | exact HB.out)), z_BK366, Q_GW366, Q_GE366, Q_NB345_366, Q_NB366_345, Q_NB346_366, Q_NB366_346, Q_NB347_366, Q_NB366_347, fun h0_ => absurd ((hoff 8 (by kernel_rfl)).symm.trans h0_) (by decide), Q_X7_⟩
   refine steps_cons ?_ ?_
   ·rintro b a w' ⟨gb366, m7_, ha, Q_BK345, Q_BK346, Q_BK347, Q_HB, Q_BK366, Q_GW366, Q_GE366, Q_NB345_366, Q_NB366_345, Q_NB346_366, Q_NB366_346, Q_NB347_366, Q_NB366_347, Q_BK366_e8, Q_X7_⟩ hb_ hon hoff
    refine ⟨_, rfl, fun K hK => ?_⟩
    have e10 : a.tmps[10]? = some (.agg #[.int .i64 t348, .int .i64 t349, .int .i64 t350, .int .i64 t351, .int .i64 t352]) := by rw [ha]; exact putSel_on (e := (1, 10, .agg #[.int .i64 t348, .int .i64 t349, .int .i64 t350, .int .i64 t351, .int .i64 t352])) 1 rfl rfl (hon 1 (by kernel_rfl)) rfl
    have e12 : a.tmps[12]? = some (.agg #[.int .i64 t353, .int .i64 t354]) := by rw [ha]; exact putSel_on (e := (3, 12, .agg #[.int .i64 t353, .int .i64 t354])) 3 rfl rfl (hon 3 (by kernel_rfl)) rfl
    have e14 : a.tmps[14]? = some (.agg #[.int .i64 t355, .int .i64 t356, .int .i64 t357, .int .i64 t358, .bool t359]) := by rw [ha]; exact putSel_on (e := (5, 14, .agg #[.int .i64 t355, .int .i64 t356, .int .i64 t357, .int .i64 t358, .bool t359])) 5 rfl rfl (hon 5 (by kernel_rfl)) rfl
    replace ha := MK ha
    have BK345 := MK Q_BK345
    have BK346 := MK Q_BK346
    have BK347 := MK Q_BK347
    have HB := MK Q_HB
    refine goes_ Try.func35 (by kernel_rfl) rfl #[.agg #[.int .i64 t348, .int .i64 t349, .int .i64 t350, .int .i64 t351, .int .i64 t352], .agg #[.int .i64 t353, .int .i64 t354], .agg #[.int .i64 t355, .int .i64 t356, .int .i64 t357, .int .i64 t358, .bool t359]] (by rfl) rfl rfl (by first | (simp only [List.map_toArray, List.map_cons, List.map_nil, Act.eval, Array.getD_eq_getD_getElem?, Option.getD_some, e10, e12, e14]; done) | (simp only [List.map_toArray, List.map_cons, List.map_nil, Act.eval, Array.getD_eq_getD_getElem?, Option.getD_some, e10, e12, e14]; rfl)) ?_
    with_reducible refine (spec_Tick.calls k t348 t349 t350 t351 t352 t353 t354 t355 t356 t357 t358 t359 t360 t361 t362 t363 t364 t365 _ A7.out).mono ?_
    rintro e w61 ⟨rfl, hb⟩
    refine ⟨_, rfl, ?_⟩
    have n0_ := MK (blk_below (by (with_reducible repeat (first | refine bN ?_ _ | refine bD ?_ | refine bA ?_ _)); exact BK345.out) hb)
    have n1_ := MK (blk_below (by (with_reducible repeat (first | refine bN ?_ _ | refine bD ?_ | refine bA ?_ _)); exact BK346.out) hb)
    have n2_ := MK (blk_below (by (with_reducible repeat (first | refine bN ?_ _ | refine bD ?_ | refine bA ?_ _)); exact BK347.out) hb)
    have n3_ := MK (below_step (by repeat (first | (with_reducible first | exact HB.out | apply lA | apply lN | apply lD | refine lS ?_ GE345.out | refine lS ?_ GE346.out | refine lS ?_ GE347.out) | exact HB.out)) hb)
    have z_BK366 := fun (h0_ : b 7 = true) (h1_ : b 8 = false) => (show w61.heap[gb366]? = some (.cells #[.bool false, .int .i64 0, .int .i64 0, .int .i64 0, .bool false, .bool false] 52 (0, 0)) from by first | exact (blk_below (g := gb366) (o := .cells #[.bool false, .int .i64 0, .int .i64 0, .int .i64 0, .bool false, .bool false] 52 (0, 0)) (by (with_reducible repeat (first | refine bN ?_ _ | refine bD ?_ | refine bA ?_ _)); exact (Q_BK366 h0_ h1_)) hb))
    clear BK345
    clear BK346
    clear BK347
    clear HB
    have BK345 := n0_
    have BK346 := n1_
    have BK347 := n2_
    have HB := n3_
    clear n0_ n1_ n2_ n3_
    (try clear hb)
    (try clear hb2)
    (try clear hk)
    (try clear hi)
    refine hK.out _ _ ⟨gb366, m7_, (by rw [ha.out]; exact putSel_upk 6 hb_ rfl rfl rfl), (by (with_reducible repeat (first | refine bN ?_ _ | refine bD ?_ | refine bA ?_ _)); exact BK345.out), (by (with_reducible repeat (first | refine bN ?_ _ | refine bD ?_ | refine bA ?_ _)); exact BK346.out), (by (with_reducible repeat (first | refine bN ?_ _ | refine bD ?_ | refine bA ?_ _)); exact BK347.out), (by repeat (first | (with_reducible first | exact HB.out | apply lA | apply lN | apply lD | refine lS ?_ GE345.out | refine lS ?_ GE346.out | refine lS ?_ GE347.out) | exact HB.out)), z_BK366, Q_GW366, Q_GE366, Q_NB345_366, Q_NB366_345, Q_NB346_366, Q_NB366_346, Q_NB347_366, Q_NB366_347, fun h0_ => absurd ((hoff 8 (by kernel_rfl)).symm.trans h0_) (by decide), Q_X7_⟩
   refine steps_cons ?_ ?_
   ·rintro b a w' ⟨gb366, m7_, ha, Q_BK345, Q_BK346, Q_BK347, Q_HB, Q_BK366, Q_GW366, Q_GE366, Q_NB345_366, Q_NB366_345, Q_NB346_366, Q_NB366_346, Q_NB347_366, Q_NB366_347, Q_BK366_e8, Q_X7_⟩ hb_ hon hoff
    refine ⟨_, rfl, fun K hK => ?_⟩
    replace ha := MK ha
    have BK345 := MK Q_BK345
    have BK346 := MK Q_BK346
    have BK347 := MK Q_BK347
    have HB := MK Q_HB
    refine box_step ?hg (N := 7) ?hd (cs := #[.bool false, .int .i64 0, .int .i64 0, .int .i64 0, .bool false, .bool false]) (t := 52) ?hr ?_; (case hd => rfl); (case hg => rfl); (case hr => first | (go_simp; done) | (go_simp; rfl))
    intro gb366 hg w57 hbox hb
    have n0_ := MK (blk_below (by (with_reducible repeat (first | refine bN ?_ _ | refine bD ?_ | refine bA ?_ _)); exact BK345.out) hb)
    have n1_ := MK (blk_below (by (with_reducible repeat (first | refine bN ?_ _ | refine bD ?_ | refine bA ?_ _)); exact BK346.out) hb)
    have n2_ := MK (blk_below (by (with_reducible repeat (first | refine bN ?_ _ | refine bD ?_ | refine bA ?_ _)); exact BK347.out) hb)
    have n3_ := MK (below_step (by repeat (first | (with_reducible first | exact HB.out | apply lA | apply lN | apply lD | refine lS ?_ GE345.out | refine lS ?_ GE346.out | refine lS ?_ GE347.out) | exact HB.out)) hb)
    have n4_ := MK (hbox)
    have n5_ := MK ((by rw [hg]; exact (below_size (by repeat (first | (with_reducible first | exact HB.out | apply lA | apply lN | apply lD | refine lS ?_ GE345.out | refine lS ?_ GE346.out | refine lS ?_ GE347.out) | exact HB.out))) : w.heap.size ≤ gb366))
    have n6_ := MK ((by rw [hg]; exact (below_size (by repeat (first | (with_reducible first | exact HB.out | apply lA | apply lN | apply lD | refine lS ?_ GE345.out | refine lS ?_ GE346.out | refine lS ?_ GE347.out) | exact HB.out))) : w.heap.size ≤ gb366))
    have n7_ := MK ((by rw [hg]; exact Nat.ne_of_lt (blk_lt (by (with_reducible repeat (first | refine bN ?_ _ | refine bD ?_ | refine bA ?_ _)); exact BK345.out)) : gb345 ≠ gb366))
    have n8_ := MK ((by rw [hg]; exact Nat.ne_of_gt (blk_lt (by (with_reducible repeat (first | refine bN ?_ _ | refine bD ?_ | refine bA ?_ _)); exact BK345.out)) : gb366 ≠ gb345))
    have n9_ := MK ((by rw [hg]; exact Nat.ne_of_lt (blk_lt (by (with_reducible repeat (first | refine bN ?_ _ | refine bD ?_ | refine bA ?_ _)); exact BK346.out)) : gb346 ≠ gb366))
    have n10_ := MK ((by rw [hg]; exact Nat.ne_of_gt (blk_lt (by (with_reducible repeat (first | refine bN ?_ _ | refine bD ?_ | refine bA ?_ _)); exact BK346.out)) : gb366 ≠ gb346))
    have n11_ := MK ((by rw [hg]; exact Nat.ne_of_lt (blk_lt (by (with_reducible repeat (first | refine bN ?_ _ | refine bD ?_ | refine bA ?_ _)); exact BK347.out)) : gb347 ≠ gb366))
    have n12_ := MK ((by rw [hg]; exact Nat.ne_of_gt (blk_lt (by (with_reducible repeat (first | refine bN ?_ _ | refine bD ?_ | refine bA ?_ _)); exact BK347.out)) : gb366 ≠ gb347))
    clear BK345
    clear BK346
    clear BK347
    clear HB
    have BK345 := n0_
    have BK346 := n1_
    have BK347 := n2_
    have HB := n3_
    have BK366 := n4_
    have GW366 := n5_
    have GE366 := n6_
    have NB345_366 := n7_
    have NB366_345 := n8_
    have NB346_366 := n9_
    have NB366_346 := n10_
    have NB347_366 := n11_
    have NB366_347 := n12_
    clear n0_ n1_ n2_ n3_ n4_ n5_ n6_ n7_ n8_ n9_ n10_ n11_ n12_
    clear hb hbox hg
    refine hK.out _ _ ⟨gb366, (.pointer (some ⟨gb366, 0, none⟩)), (by rw [ha.out]; exact putSel_upk 7 hb_ rfl rfl rfl), (by (with_reducible repeat (first | refine bN ?_ _ | refine bD ?_ | refine bA ?_ _)); exact BK345.out), (by (with_reducible repeat (first | refine bN ?_ _ | refine bD ?_ | refine bA ?_ _)); exact BK346.out), (by (with_reducible repeat (first | refine bN ?_ _ | refine bD ?_ | refine bA ?_ _)); exact BK347.out), (by repeat (first | (with_reducible first | exact HB.out | apply lA | apply lN | apply lD | refine lS ?_ GE345.out | refine lS ?_ GE346.out | refine lS ?_ GE347.out | refine lS ?_ GE366.out) | exact HB.out)), fun _ _ => (by (with_reducible repeat (first | refine bN ?_ _ | refine bD ?_ | refine bA ?_ _)); exact BK366.out), fun _ => GW366.out, fun _ => GE366.out, fun _ => NB345_366.out, fun _ => NB366_345.out, fun _ => NB346_366.out, fun _ => NB366_346.out, fun _ => NB347_366.out, fun _ => NB366_347.out, fun h0_ => absurd ((hoff 8 (by kernel_rfl)).symm.trans h0_) (by decide), fun _ => rfl⟩
   refine steps_cons ?_ ?_
   ·rintro b a w' ⟨gb366, m7_, ha, Q_BK345, Q_BK346, Q_BK347, Q_HB, Q_BK366, Q_GW366, Q_GE366, Q_NB345_366, Q_NB366_345, Q_NB346_366, Q_NB366_346, Q_NB347_366, Q_NB366_347, Q_BK366_e8, Q_X7_⟩ hb_ hon hoff
    refine ⟨_, rfl, fun K hK => ?_⟩
    have e7 : a.tmps[7]? = some (m7_) := by rw [ha]; exact putSel_on (e := (7, 7, m7_)) 7 rfl rfl (hon 7 (by kernel_rfl)) rfl
    rw [Q_X7_ (hon 7 (by kernel_rfl))] at e7
    have e15 : a.tmps[15]? = some (.agg #[.bool t360, .int .i64 t361, .int .i64 t362, .int .i64 t363, .bool t364, .bool t365]) := by rw [ha]; exact putSel_on (e := (6, 15, .agg #[.bool t360, .int .i64 t361, .int .i64 t362, .int .i64 t363, .bool t364, .bool t365])) 6 rfl rfl (hon 6 (by kernel_rfl)) rfl
    replace ha := MK ha
    have BK345 := MK Q_BK345
    have BK346 := MK Q_BK346
    have BK347 := MK Q_BK347
    have HB := MK Q_HB
    have BK366 := MK (Q_BK366 (hon 7 (by kernel_rfl)) hb_)
    have GW366 := MK (Q_GW366 (hon 7 (by kernel_rfl)))
    have GE366 := MK (Q_GE366 (hon 7 (by kernel_rfl)))
    have NB345_366 := MK (Q_NB345_366 (hon 7 (by kernel_rfl)))
    have NB366_345 := MK (Q_NB366_345 (hon 7 (by kernel_rfl)))
    have NB346_366 := MK (Q_NB346_366 (hon 7 (by kernel_rfl)))
    have NB366_346 := MK (Q_NB366_346 (hon 7 (by kernel_rfl)))
    have NB347_366 := MK (Q_NB347_366 (hon 7 (by kernel_rfl)))
    have NB366_347 := MK (Q_NB366_347 (hon 7 (by kernel_rfl)))
    have hs63 : w'.cell? ⟨gb366, 0, none⟩ = some (.bool false) := (blk_cell BK366.out 0).trans rfl
    have hfs63 := blk_frozen BK366.out 0
    have hns63_0 := NB345_366.out
    have hns63_1 := NB346_366.out
    have hns63_2 := NB347_366.out
    have hms63_0 := NB366_345.out
    have hms63_1 := NB366_346.out
    have hms63_2 := NB366_347.out
    have hs64 : w'.cell? ⟨gb366, 1, none⟩ = some (.int .i64 0) := (blk_cell BK366.out 1).trans rfl
    have hfs64 := blk_frozen BK366.out 1
    have hs65 : w'.cell? ⟨gb366, 2, none⟩ = some (.int .i64 0) := (blk_cell BK366.out 2).trans rfl
    have hfs65 := blk_frozen BK366.out 2
    have hs66 : w'.cell? ⟨gb366, 3, none⟩ = some (.int .i64 0) := (blk_cell BK366.out 3).trans rfl
    have hfs66 := blk_frozen BK366.out 3
    have hs67 : w'.cell? ⟨gb366, 4, none⟩ = some (.bool false) := (blk_cell BK366.out 4).trans rfl
    have hfs67 := blk_frozen BK366.out 4
    have hs68 : w'.cell? ⟨gb366, 5, none⟩ = some (.bool false) := (blk_cell BK366.out 5).trans rfl
    have hfs68 := blk_frozen BK366.out 5
    refine skip_ (w1 := ?_) (by rfl) rfl ?_ ?_
    rotate_left
    ·go_simp
     rfl
    refine hK.out _ _ ⟨gb366, m7_, (by rw [ha.out]; exact putSel_none (v := undef) rfl), (by (with_reducible repeat (first | refine bN ?_ _ | refine bD ?_ | refine bA ?_ _)); refine blk_far ?_ NB345_366.out _; (with_reducible repeat (first | refine bN ?_ _ | refine bD ?_ | refine bA ?_ _)); refine blk_far ?_ NB345_366.out _; (with_reducible repeat (first | refine bN ?_ _ | refine bD ?_ | refine bA ?_ _)); refine blk_far ?_ NB345_366.out _; (with_reducible repeat (first | refine bN ?_ _ | refine bD ?_ | refine bA ?_ _)); refine blk_far ?_ NB345_366.out _; (with_reducible repeat (first | refine bN ?_ _ | refine bD ?_ | refine bA ?_ _)); refine blk_far ?_ NB345_366.out _; (with_reducible repeat (first | refine bN ?_ _ | refine bD ?_ | refine bA ?_ _)); refine blk_far ?_ NB345_366.out _; (with_reducible repeat (first | refine bN ?_ _ | refine bD ?_ | refine bA ?_ _)); exact BK345.out), (by (with_reducible repeat (first | refine bN ?_ _ | refine bD ?_ | refine bA ?_ _)); refine blk_far ?_ NB346_366.out _; (with_reducible repeat (first | refine bN ?_ _ | refine bD ?_ | refine bA ?_ _)); refine blk_far ?_ NB346_366.out _; (with_reducible repeat (first | refine bN ?_ _ | refine bD ?_ | refine bA ?_ _)); refine blk_far ?_ NB346_366.out _; (with_reducible repeat (first | refine bN ?_ _ | refine bD ?_ | refine bA ?_ _)); refine blk_far ?_ NB346_366.out _; (with_reducible repeat (first | refine bN ?_ _ | refine bD ?_ | refine bA ?_ _)); refine blk_far ?_ NB346_366.out _; (with_reducible repeat (first | refine bN ?_ _ | refine bD ?_ | refine bA ?_ _)); refine blk_far ?_ NB346_366.out _; (with_reducible repeat (first | refine bN ?_ _ | refine bD ?_ | refine bA ?_ _)); exact BK346.out), (by (with_reducible repeat (first | refine bN ?_ _ | refine bD ?_ | refine bA ?_ _)); refine blk_far ?_ NB347_366.out _; (with_reducible repeat (first | refine bN ?_ _ | refine bD ?_ | refine bA ?_ _)); refine blk_far ?_ NB347_366.out _; (with_reducible repeat (first | refine bN ?_ _ | refine bD ?_ | refine bA ?_ _)); refine blk_far ?_ NB347_366.out _; (with_reducible repeat (first | refine bN ?_ _ | refine bD ?_ | refine bA ?_ _)); refine blk_far ?_ NB347_366.out _; (with_reducible repeat (first | refine bN ?_ _ | refine bD ?_ | refine bA ?_ _)); refine blk_far ?_ NB347_366.out _; (with_reducible repeat (first | refine bN ?_ _ | refine bD ?_ | refine bA ?_ _)); refine blk_far ?_ NB347_366.out _; (with_reducible repeat (first | refine bN ?_ _ | refine bD ?_ | refine bA ?_ _)); exact BK347.out), (by repeat (first | (with_reducible first | exact HB.out | apply lA | apply lN | apply lD | refine lS ?_ GE345.out | refine lS ?_ GE346.out | refine lS ?_ GE347.out | refine lS ?_ GE366.out) | exact HB.out)), fun _ h1_ => absurd ((up_self b 8).symm.trans h1_) (by decide), fun _ => GW366.out, fun _ => GE366.out, fun _ => NB345_366.out, fun _ => NB366_345.out, fun _ => NB346_366.out, fun _ => NB366_346.out, fun _ => NB347_366.out, fun _ => NB366_347.out, fun _ => (by (with_reducible repeat (first | refine bN ?_ _ | refine bD ?_ | refine bA ?_ _)); refine blk_put (cs := #[.bool t360, .int .i64 t361, .int .i64 t362, .int .i64 t363, .bool t364, .bool false]) ?_ 5 _ rfl; (with_reducible repeat (first | refine bN ?_ _ | refine bD ?_ | refine bA ?_ _)); refine blk_put (cs := #[.bool t360, .int .i64 t361, .int .i64 t362, .int .i64 t363, .bool false, .bool false]) ?_ 4 _ rfl; (with_reducible repeat (first | refine bN ?_ _ | refine bD ?_ | refine bA ?_ _)); refine blk_put (cs := #[.bool t360, .int .i64 t361, .int .i64 t362, .int .i64 0, .bool false, .bool false]) ?_ 3 _ rfl; (with_reducible repeat (first | refine bN ?_ _ | refine bD ?_ | refine bA ?_ _)); refine blk_put (cs := #[.bool t360, .int .i64 t361, .int .i64 0, .int .i64 0, .bool false, .bool false]) ?_ 2 _ rfl; (with_reducible repeat (first | refine bN ?_ _ | refine bD ?_ | refine bA ?_ _)); refine blk_put (cs := #[.bool t360, .int .i64 0, .int .i64 0, .int .i64 0, .bool false, .bool false]) ?_ 1 _ rfl; (with_reducible repeat (first | refine bN ?_ _ | refine bD ?_ | refine bA ?_ _)); refine blk_put (cs := #[.bool false, .int .i64 0, .int .i64 0, .int .i64 0, .bool false, .bool false]) ?_ 0 _ rfl; (with_reducible repeat (first | refine bN ?_ _ | refine bD ?_ | refine bA ?_ _)); exact BK366.out), Q_X7_⟩
   exact steps_nil
  rintro b a w68 hall ⟨gb366, m7_, ha, Q_BK345, Q_BK346, Q_BK347, Q_HB, Q_BK366, Q_GW366, Q_GE366, Q_NB345_366, Q_NB366_345, Q_NB346_366, Q_NB366_346, Q_NB347_366, Q_NB366_347, Q_BK366_e8, Q_X7_⟩
  clear BK345 BK346 BK347 HB
  have hb0_ := hall 0 (by kernel_rfl)
  have hb1_ := hall 1 (by kernel_rfl)
  have hb2_ := hall 2 (by kernel_rfl)
  have hb3_ := hall 3 (by kernel_rfl)
  have hb4_ := hall 4 (by kernel_rfl)
  have hb5_ := hall 5 (by kernel_rfl)
  have hb6_ := hall 6 (by kernel_rfl)
  have hb7_ := hall 7 (by kernel_rfl)
  have hb8_ := hall 8 (by kernel_rfl)
  subst ha
  obtain rfl := Q_X7_ hb7_
  simp only [putSel, hb0_, hb1_, hb2_, hb3_, hb4_, hb5_, hb6_, hb7_, hb8_, if_true, Act.put, List.setIfInBounds_toArray, List.set_cons_zero, List.set_cons_succ]
  have BK345 := MK Q_BK345
  clear Q_BK345
  have BK346 := MK Q_BK346
  clear Q_BK346
  have BK347 := MK Q_BK347
  clear Q_BK347
  have HB := MK Q_HB
  clear Q_HB
  clear Q_BK366
  have GW366 := MK (Q_GW366 hb7_)
  clear Q_GW366
  have GE366 := MK (Q_GE366 hb7_)
  clear Q_GE366
  have NB345_366 := MK (Q_NB345_366 hb7_)
  clear Q_NB345_366
  have NB366_345 := MK (Q_NB366_345 hb7_)
  clear Q_NB366_345
  have NB346_366 := MK (Q_NB346_366 hb7_)
  clear Q_NB346_366
  have NB366_346 := MK (Q_NB366_346 hb7_)
  clear Q_NB366_346
  have NB347_366 := MK (Q_NB347_366 hb7_)
  clear Q_NB347_366
  have NB366_347 := MK (Q_NB366_347 hb7_)
  clear Q_NB366_347
  have BK366 := MK (Q_BK366_e8 hb8_)
  clear Q_BK366_e8
  clear hall hb0_ hb1_ hb2_ hb3_ hb4_ hb5_ hb6_ hb7_ hb8_
  try go_wp2
  have n0_ := MK (bD BK345.out)
  have n1_ := MK (bD BK346.out)
  have n2_ := MK (bD BK347.out)
  have n3_ := MK (bD BK366.out)
  have n4_ := MK (lD HB.out)
  clear BK345
  clear BK346
  clear BK347
  clear BK366
  clear HB
  have BK345 := n0_
  have BK346 := n1_
  have BK347 := n2_
  have BK366 := n3_
  have HB := n4_
  clear n0_ n1_ n2_ n3_ n4_
  refine start_ (n := 9) (S := fun w' => True) (ds := []) #[false, false, false, false, false, false, false, false, false] (by kernel_rfl) rfl rfl trivial (fun hHeld => ?_); refine with_tabW laws_FnExactTick.tab2 laws_FnExactTick.bits2 (fun HT_ HW_ => ?_)
  generalize w68.drew = w69 at BK345 BK346 BK347 BK366 HB hHeld ⊢
  refine inv_at [0, 1, 2, 3, 4, 5, 6, 7, 8] (fun a0_ b a w' => ∃ (gb385 : Nat) (m7_ : Value), a = putSel a0_ b [(0, 16, .agg #[.int .i64 a0_0, .int .i64 a0_1, .int .i64 a0_2, .int .i64 a0_3, .int .i64 a0_4]), (1, 17, .agg #[.int .i64 t367, .int .i64 t368, .int .i64 t369, .int .i64 t370, .int .i64 t371]), (2, 18, .agg #[.int .i64 a1_0, .int .i64 a1_1]), (3, 19, .agg #[.int .i64 t372, .int .i64 t373]), (4, 20, .agg #[.int .i64 a2_0, .int .i64 a2_1, .int .i64 a2_2, .int .i64 a2_3, .bool a2_4]), (5, 21, .agg #[.int .i64 t374, .int .i64 t375, .int .i64 t376, .int .i64 t377, .bool t378]), (6, 22, .agg #[.bool t379, .int .i64 t380, .int .i64 t381, .int .i64 t382, .bool t383, .bool t384]), (7, 8, m7_)] ∧ (w'.heap[gb345]? = some (.cells #[.int .i64 a0_0, .int .i64 a0_1, .int .i64 a0_2, .int .i64 a0_3, .int .i64 a0_4] 30 (0, 0))) ∧ (w'.heap[gb346]? = some (.cells #[.int .i64 a1_0, .int .i64 a1_1] 24 (0, 0))) ∧ (w'.heap[gb347]? = some (.cells #[.int .i64 a2_0, .int .i64 a2_1, .int .i64 a2_2, .int .i64 a2_3, .bool a2_4] 36 (0, 0))) ∧ (w'.heap[gb366]? = some (.cells #[.bool t360, .int .i64 t361, .int .i64 t362, .int .i64 t363, .bool t364, .bool t365] 52 (0, 0))) ∧ (Below w.heap.size w w') ∧ (b 7 = true → b 8 = false → w'.heap[gb385]? = some (.cells #[.bool false, .int .i64 0, .int .i64 0, .int .i64 0, .bool false, .bool false] 52 (0, 0))) ∧ (b 7 = true → w.heap.size ≤ gb385) ∧ (b 7 = true → w.heap.size ≤ gb385) ∧ (b 7 = true → gb345 ≠ gb385) ∧ (b 7 = true → gb385 ≠ gb345) ∧ (b 7 = true → gb346 ≠ gb385) ∧ (b 7 = true → gb385 ≠ gb346) ∧ (b 7 = true → gb347 ≠ gb385) ∧ (b 7 = true → gb385 ≠ gb347) ∧ (b 7 = true → gb366 ≠ gb385) ∧ (b 7 = true → gb385 ≠ gb366) ∧ (b 8 = true → w'.heap[gb385]? = some (.cells #[.bool t379, .int .i64 t380, .int .i64 t381, .int .i64 t382, .bool t383, .bool t384] 52 (0, 0))) ∧ (b 7 = true → (m7_ : Value) = .pointer (some ⟨gb385, 0, none⟩))) HT_.out HW_.out (by kernel_rfl) (by kernel_rfl) ?_ ?_ ?_
  ·exact ⟨0, .bool false, by simp only [putSel, Bool.false_eq_true, if_false], BK345.out, BK346.out, BK347.out, BK366.out, HB.out, fun h_ => absurd h_ (by decide), fun h_ => absurd h_ (by decide), fun h_ => absurd h_ (by decide), fun h_ => absurd h_ (by decide), fun h_ => absurd h_ (by decide), fun h_ => absurd h_ (by decide), fun h_ => absurd h_ (by decide), fun h_ => absurd h_ (by decide), fun h_ => absurd h_ (by decide), fun h_ => absurd h_ (by decide), fun h_ => absurd h_ (by decide), fun h_ => absurd h_ (by decide), fun h_ => absurd h_ (by decide)⟩
  ·skip
   clear BK345 BK346 BK347 BK366 HB
   refine steps_cons ?_ ?_
   ·rintro b a w' ⟨gb385, m7_, ha, Q_BK345, Q_BK346, Q_BK347, Q_BK366, Q_HB, Q_BK385, Q_GW385, Q_GE385, Q_NB345_385, Q_NB385_345, Q_NB346_385, Q_NB385_346, Q_NB347_385, Q_NB385_347, Q_NB366_385, Q_NB385_366, Q_BK385_e8, Q_X7_⟩ hb_ hon hoff
    refine ⟨_, rfl, fun K hK => ?_⟩
    have e3 : a.tmps[3]? = some (.pointer (some ⟨gb345, 0, none⟩)) := by rw [ha]; exact (putSel_off rfl).trans rfl
    replace ha := MK ha
    have BK345 := MK Q_BK345
    have BK346 := MK Q_BK346
    have BK347 := MK Q_BK347
    have BK366 := MK Q_BK366
    have HB := MK Q_HB
    have hc0_ : w'.cell? ⟨gb345, 0, none⟩ = some (.int .i64 a0_0) := (blk_cell BK345.out 0).trans rfl
    have hc1_ : w'.cell? ⟨gb345, 1, none⟩ = some (.int .i64 a0_1) := (blk_cell BK345.out 1).trans rfl
    have hc2_ : w'.cell? ⟨gb345, 2, none⟩ = some (.int .i64 a0_2) := (blk_cell BK345.out 2).trans rfl
    have hc3_ : w'.cell? ⟨gb345, 3, none⟩ = some (.int .i64 a0_3) := (blk_cell BK345.out 3).trans rfl
    have hc4_ : w'.cell? ⟨gb345, 4, none⟩ = some (.int .i64 a0_4) := (blk_cell BK345.out 4).trans rfl
    refine value_ (w1 := w') (v := .agg #[.int .i64 a0_0, .int .i64 a0_1, .int .i64 a0_2, .int .i64 a0_3, .int .i64 a0_4]) (by rfl) rfl ?_ ?_
    ·go_simp
     (try simp only [i64_w])
     try rfl
    refine hK.out _ _ ⟨gb385, m7_, (by rw [ha.out]; exact putSel_upk 0 hb_ rfl rfl rfl), Q_BK345, Q_BK346, Q_BK347, Q_BK366, Q_HB, Q_BK385, Q_GW385, Q_GE385, Q_NB345_385, Q_NB385_345, Q_NB346_385, Q_NB385_346, Q_NB347_385, Q_NB385_347, Q_NB366_385, Q_NB385_366, fun h0_ => absurd ((hoff 8 (by kernel_rfl)).symm.trans h0_) (by decide), Q_X7_⟩
   refine steps_cons ?_ ?_
   ·rintro b a w' ⟨gb385, m7_, ha, Q_BK345, Q_BK346, Q_BK347, Q_BK366, Q_HB, Q_BK385, Q_GW385, Q_GE385, Q_NB345_385, Q_NB385_345, Q_NB346_385, Q_NB385_346, Q_NB347_385, Q_NB385_347, Q_NB366_385, Q_NB385_366, Q_BK385_e8, Q_X7_⟩ hb_ hon hoff
    refine ⟨_, rfl, fun K hK => ?_⟩
    have e16 : a.tmps[16]? = some (.agg #[.int .i64 a0_0, .int .i64 a0_1, .int .i64 a0_2, .int .i64 a0_3, .int .i64 a0_4]) := by rw [ha]; exact putSel_on (e := (0, 16, .agg #[.int .i64 a0_0, .int .i64 a0_1, .int .i64 a0_2, .int .i64 a0_3, .int .i64 a0_4])) 0 rfl rfl (hon 0 (by kernel_rfl)) rfl
    replace ha := MK ha
    have BK345 := MK Q_BK345
    have BK346 := MK Q_BK346
    have BK347 := MK Q_BK347
    have BK366 := MK Q_BK366
    have HB := MK Q_HB
    refine goes_ Try.func19 (by kernel_rfl) rfl #[.agg #[.int .i64 a0_0, .int .i64 a0_1, .int .i64 a0_2, .int .i64 a0_3, .int .i64 a0_4]] (by rfl) rfl rfl (by first | (simp only [List.map_toArray, List.map_cons, List.map_nil, Act.eval, Array.getD_eq_getD_getElem?, Option.getD_some, e16]; done) | (simp only [List.map_toArray, List.map_cons, List.map_nil, Act.eval, Array.getD_eq_getD_getElem?, Option.getD_some, e16]; rfl)) ?_
    with_reducible refine (laws_toBrakes.calls a0_0 a0_1 a0_2 a0_3 a0_4 t367 t368 t369 t370 t371 _ A8.out).mono ?_
    rintro e w70 ⟨rfl, hb⟩
    refine ⟨_, rfl, ?_⟩
    have n0_ := MK (blk_below (by (with_reducible repeat (first | refine bN ?_ _ | refine bD ?_ | refine bA ?_ _)); exact BK345.out) hb)
    have n1_ := MK (blk_below (by (with_reducible repeat (first | refine bN ?_ _ | refine bD ?_ | refine bA ?_ _)); exact BK346.out) hb)
    have n2_ := MK (blk_below (by (with_reducible repeat (first | refine bN ?_ _ | refine bD ?_ | refine bA ?_ _)); exact BK347.out) hb)
    have n3_ := MK (blk_below (by (with_reducible repeat (first | refine bN ?_ _ | refine bD ?_ | refine bA ?_ _)); exact BK366.out) hb)
    have n4_ := MK (below_step (by repeat (first | (with_reducible first | exact HB.out | apply lA | apply lN | apply lD | refine lS ?_ GE345.out | refine lS ?_ GE346.out | refine lS ?_ GE347.out | refine lS ?_ GE366.out) | exact HB.out)) hb)
    have z_BK385 := fun (h0_ : b 7 = true) (h1_ : b 8 = false) => (show w70.heap[gb385]? = some (.cells #[.bool false, .int .i64 0, .int .i64 0, .int .i64 0, .bool false, .bool false] 52 (0, 0)) from by first | exact (blk_below (g := gb385) (o := .cells #[.bool false, .int .i64 0, .int .i64 0, .int .i64 0, .bool false, .bool false] 52 (0, 0)) (by (with_reducible repeat (first | refine bN ?_ _ | refine bD ?_ | refine bA ?_ _)); exact (Q_BK385 h0_ h1_)) hb))
    clear BK345
    clear BK346
    clear BK347
    clear BK366
    clear HB
    have BK345 := n0_
    have BK346 := n1_
    have BK347 := n2_
    have BK366 := n3_
    have HB := n4_
    clear n0_ n1_ n2_ n3_ n4_
    (try clear hb)
    (try clear hb2)
    (try clear hk)
    (try clear hi)
    refine hK.out _ _ ⟨gb385, m7_, (by rw [ha.out]; exact putSel_upk 1 hb_ rfl rfl rfl), (by (with_reducible repeat (first | refine bN ?_ _ | refine bD ?_ | refine bA ?_ _)); exact BK345.out), (by (with_reducible repeat (first | refine bN ?_ _ | refine bD ?_ | refine bA ?_ _)); exact BK346.out), (by (with_reducible repeat (first | refine bN ?_ _ | refine bD ?_ | refine bA ?_ _)); exact BK347.out), (by (with_reducible repeat (first | refine bN ?_ _ | refine bD ?_ | refine bA ?_ _)); exact BK366.out), (by repeat (first | (with_reducible first | exact HB.out | apply lA | apply lN | apply lD | refine lS ?_ GE345.out | refine lS ?_ GE346.out | refine lS ?_ GE347.out | refine lS ?_ GE366.out) | exact HB.out)), z_BK385, Q_GW385, Q_GE385, Q_NB345_385, Q_NB385_345, Q_NB346_385, Q_NB385_346, Q_NB347_385, Q_NB385_347, Q_NB366_385, Q_NB385_366, fun h0_ => absurd ((hoff 8 (by kernel_rfl)).symm.trans h0_) (by decide), Q_X7_⟩
   refine steps_cons ?_ ?_
   ·rintro b a w' ⟨gb385, m7_, ha, Q_BK345, Q_BK346, Q_BK347, Q_BK366, Q_HB, Q_BK385, Q_GW385, Q_GE385, Q_NB345_385, Q_NB385_345, Q_NB346_385, Q_NB385_346, Q_NB347_385, Q_NB385_347, Q_NB366_385, Q_NB385_366, Q_BK385_e8, Q_X7_⟩ hb_ hon hoff
    refine ⟨_, rfl, fun K hK => ?_⟩
    have e4 : a.tmps[4]? = some (.pointer (some ⟨gb346, 0, none⟩)) := by rw [ha]; exact (putSel_off rfl).trans rfl
    replace ha := MK ha
    have BK345 := MK Q_BK345
    have BK346 := MK Q_BK346
    have BK347 := MK Q_BK347
    have BK366 := MK Q_BK366
    have HB := MK Q_HB
    have hc0_ : w'.cell? ⟨gb346, 0, none⟩ = some (.int .i64 a1_0) := (blk_cell BK346.out 0).trans rfl
    have hc1_ : w'.cell? ⟨gb346, 1, none⟩ = some (.int .i64 a1_1) := (blk_cell BK346.out 1).trans rfl
    refine value_ (w1 := w') (v := .agg #[.int .i64 a1_0, .int .i64 a1_1]) (by rfl) rfl ?_ ?_
    ·go_simp
     (try simp only [i64_w])
     try rfl
    refine hK.out _ _ ⟨gb385, m7_, (by rw [ha.out]; exact putSel_upk 2 hb_ rfl rfl rfl), Q_BK345, Q_BK346, Q_BK347, Q_BK366, Q_HB, Q_BK385, Q_GW385, Q_GE385, Q_NB345_385, Q_NB385_345, Q_NB346_385, Q_NB385_346, Q_NB347_385, Q_NB385_347, Q_NB366_385, Q_NB385_366, fun h0_ => absurd ((hoff 8 (by kernel_rfl)).symm.trans h0_) (by decide), Q_X7_⟩
   refine steps_cons ?_ ?_
   ·rintro b a w' ⟨gb385, m7_, ha, Q_BK345, Q_BK346, Q_BK347, Q_BK366, Q_HB, Q_BK385, Q_GW385, Q_GE385, Q_NB345_385, Q_NB385_345, Q_NB346_385, Q_NB385_346, Q_NB347_385, Q_NB385_347, Q_NB366_385, Q_NB385_366, Q_BK385_e8, Q_X7_⟩ hb_ hon hoff
    refine ⟨_, rfl, fun K hK => ?_⟩
    have e18 : a.tmps[18]? = some (.agg #[.int .i64 a1_0, .int .i64 a1_1]) := by rw [ha]; exact putSel_on (e := (2, 18, .agg #[.int .i64 a1_0, .int .i64 a1_1])) 2 rfl rfl (hon 2 (by kernel_rfl)) rfl
    replace ha := MK ha
    have BK345 := MK Q_BK345
    have BK346 := MK Q_BK346
    have BK347 := MK Q_BK347
    have BK366 := MK Q_BK366
    have HB := MK Q_HB
    refine goes_ Try.func16 (by kernel_rfl) rfl #[.agg #[.int .i64 a1_0, .int .i64 a1_1]] (by rfl) rfl rfl (by first | (simp only [List.map_toArray, List.map_cons, List.map_nil, Act.eval, Array.getD_eq_getD_getElem?, Option.getD_some, e18]; done) | (simp only [List.map_toArray, List.map_cons, List.map_nil, Act.eval, Array.getD_eq_getD_getElem?, Option.getD_some, e18]; rfl)) ?_
    with_reducible refine (laws_toGuard.calls a1_0 a1_1 t372 t373 _ A9.out).mono ?_
    rintro e w72 ⟨rfl, hb⟩
    refine ⟨_, rfl, ?_⟩
    have n0_ := MK (blk_below (by (with_reducible repeat (first | refine bN ?_ _ | refine bD ?_ | refine bA ?_ _)); exact BK345.out) hb)
    have n1_ := MK (blk_below (by (with_reducible repeat (first | refine bN ?_ _ | refine bD ?_ | refine bA ?_ _)); exact BK346.out) hb)
    have n2_ := MK (blk_below (by (with_reducible repeat (first | refine bN ?_ _ | refine bD ?_ | refine bA ?_ _)); exact BK347.out) hb)
    have n3_ := MK (blk_below (by (with_reducible repeat (first | refine bN ?_ _ | refine bD ?_ | refine bA ?_ _)); exact BK366.out) hb)
    have n4_ := MK (below_step (by repeat (first | (with_reducible first | exact HB.out | apply lA | apply lN | apply lD | refine lS ?_ GE345.out | refine lS ?_ GE346.out | refine lS ?_ GE347.out | refine lS ?_ GE366.out) | exact HB.out)) hb)
    have z_BK385 := fun (h0_ : b 7 = true) (h1_ : b 8 = false) => (show w72.heap[gb385]? = some (.cells #[.bool false, .int .i64 0, .int .i64 0, .int .i64 0, .bool false, .bool false] 52 (0, 0)) from by first | exact (blk_below (g := gb385) (o := .cells #[.bool false, .int .i64 0, .int .i64 0, .int .i64 0, .bool false, .bool false] 52 (0, 0)) (by (with_reducible repeat (first | refine bN ?_ _ | refine bD ?_ | refine bA ?_ _)); exact (Q_BK385 h0_ h1_)) hb))
    clear BK345
    clear BK346
    clear BK347
    clear BK366
    clear HB
    have BK345 := n0_
    have BK346 := n1_
    have BK347 := n2_
    have BK366 := n3_
    have HB := n4_
    clear n0_ n1_ n2_ n3_ n4_
    (try clear hb)
    (try clear hb2)
    (try clear hk)
    (try clear hi)
    refine hK.out _ _ ⟨gb385, m7_, (by rw [ha.out]; exact putSel_upk 3 hb_ rfl rfl rfl), (by (with_reducible repeat (first | refine bN ?_ _ | refine bD ?_ | refine bA ?_ _)); exact BK345.out), (by (with_reducible repeat (first | refine bN ?_ _ | refine bD ?_ | refine bA ?_ _)); exact BK346.out), (by (with_reducible repeat (first | refine bN ?_ _ | refine bD ?_ | refine bA ?_ _)); exact BK347.out), (by (with_reducible repeat (first | refine bN ?_ _ | refine bD ?_ | refine bA ?_ _)); exact BK366.out), (by repeat (first | (with_reducible first | exact HB.out | apply lA | apply lN | apply lD | refine lS ?_ GE345.out | refine lS ?_ GE346.out | refine lS ?_ GE347.out | refine lS ?_ GE366.out) | exact HB.out)), z_BK385, Q_GW385, Q_GE385, Q_NB345_385, Q_NB385_345, Q_NB346_385, Q_NB385_346, Q_NB347_385, Q_NB385_347, Q_NB366_385, Q_NB385_366, fun h0_ => absurd ((hoff 8 (by kernel_rfl)).symm.trans h0_) (by decide), Q_X7_⟩
   refine steps_cons ?_ ?_
   ·rintro b a w' ⟨gb385, m7_, ha, Q_BK345, Q_BK346, Q_BK347, Q_BK366, Q_HB, Q_BK385, Q_GW385, Q_GE385, Q_NB345_385, Q_NB385_345, Q_NB346_385, Q_NB385_346, Q_NB347_385, Q_NB385_347, Q_NB366_385, Q_NB385_366, Q_BK385_e8, Q_X7_⟩ hb_ hon hoff
    refine ⟨_, rfl, fun K hK => ?_⟩
    have e5 : a.tmps[5]? = some (.pointer (some ⟨gb347, 0, none⟩)) := by rw [ha]; exact (putSel_off rfl).trans rfl
    replace ha := MK ha
    have BK345 := MK Q_BK345
    have BK346 := MK Q_BK346
    have BK347 := MK Q_BK347
    have BK366 := MK Q_BK366
    have HB := MK Q_HB
    have hc0_ : w'.cell? ⟨gb347, 0, none⟩ = some (.int .i64 a2_0) := (blk_cell BK347.out 0).trans rfl
    have hc1_ : w'.cell? ⟨gb347, 1, none⟩ = some (.int .i64 a2_1) := (blk_cell BK347.out 1).trans rfl
    have hc2_ : w'.cell? ⟨gb347, 2, none⟩ = some (.int .i64 a2_2) := (blk_cell BK347.out 2).trans rfl
    have hc3_ : w'.cell? ⟨gb347, 3, none⟩ = some (.int .i64 a2_3) := (blk_cell BK347.out 3).trans rfl
    have hc4_ : w'.cell? ⟨gb347, 4, none⟩ = some (.bool a2_4) := (blk_cell BK347.out 4).trans rfl
    refine value_ (w1 := w') (v := .agg #[.int .i64 a2_0, .int .i64 a2_1, .int .i64 a2_2, .int .i64 a2_3, .bool a2_4]) (by rfl) rfl ?_ ?_
    ·go_simp
     (try simp only [i64_w])
     try rfl
    refine hK.out _ _ ⟨gb385, m7_, (by rw [ha.out]; exact putSel_upk 4 hb_ rfl rfl rfl), Q_BK345, Q_BK346, Q_BK347, Q_BK366, Q_HB, Q_BK385, Q_GW385, Q_GE385, Q_NB345_385, Q_NB385_345, Q_NB346_385, Q_NB385_346, Q_NB347_385, Q_NB385_347, Q_NB366_385, Q_NB385_366, fun h0_ => absurd ((hoff 8 (by kernel_rfl)).symm.trans h0_) (by decide), Q_X7_⟩
   refine steps_cons ?_ ?_
   ·rintro b a w' ⟨gb385, m7_, ha, Q_BK345, Q_BK346, Q_BK347, Q_BK366, Q_HB, Q_BK385, Q_GW385, Q_GE385, Q_NB345_385, Q_NB385_345, Q_NB346_385, Q_NB385_346, Q_NB347_385, Q_NB385_347, Q_NB366_385, Q_NB385_366, Q_BK385_e8, Q_X7_⟩ hb_ hon hoff
    refine ⟨_, rfl, fun K hK => ?_⟩
    have e20 : a.tmps[20]? = some (.agg #[.int .i64 a2_0, .int .i64 a2_1, .int .i64 a2_2, .int .i64 a2_3, .bool a2_4]) := by rw [ha]; exact putSel_on (e := (4, 20, .agg #[.int .i64 a2_0, .int .i64 a2_1, .int .i64 a2_2, .int .i64 a2_3, .bool a2_4])) 4 rfl rfl (hon 4 (by kernel_rfl)) rfl
    replace ha := MK ha
    have BK345 := MK Q_BK345
    have BK346 := MK Q_BK346
    have BK347 := MK Q_BK347
    have BK366 := MK Q_BK366
    have HB := MK Q_HB
    refine goes_ Try.func22 (by kernel_rfl) rfl #[.agg #[.int .i64 a2_0, .int .i64 a2_1, .int .i64 a2_2, .int .i64 a2_3, .bool a2_4]] (by rfl) rfl rfl (by first | (simp only [List.map_toArray, List.map_cons, List.map_nil, Act.eval, Array.getD_eq_getD_getElem?, Option.getD_some, e20]; done) | (simp only [List.map_toArray, List.map_cons, List.map_nil, Act.eval, Array.getD_eq_getD_getElem?, Option.getD_some, e20]; rfl)) ?_
    with_reducible refine (laws_toFelt.calls a2_0 a2_1 a2_2 a2_3 a2_4 t374 t375 t376 t377 t378 _ A10.out).mono ?_
    rintro e w73 ⟨rfl, hb⟩
    refine ⟨_, rfl, ?_⟩
    have n0_ := MK (blk_below (by (with_reducible repeat (first | refine bN ?_ _ | refine bD ?_ | refine bA ?_ _)); exact BK345.out) hb)
    have n1_ := MK (blk_below (by (with_reducible repeat (first | refine bN ?_ _ | refine bD ?_ | refine bA ?_ _)); exact BK346.out) hb)
    have n2_ := MK (blk_below (by (with_reducible repeat (first | refine bN ?_ _ | refine bD ?_ | refine bA ?_ _)); exact BK347.out) hb)
    have n3_ := MK (blk_below (by (with_reducible repeat (first | refine bN ?_ _ | refine bD ?_ | refine bA ?_ _)); exact BK366.out) hb)
    have n4_ := MK (below_step (by repeat (first | (with_reducible first | exact HB.out | apply lA | apply lN | apply lD | refine lS ?_ GE345.out | refine lS ?_ GE346.out | refine lS ?_ GE347.out | refine lS ?_ GE366.out) | exact HB.out)) hb)
    have z_BK385 := fun (h0_ : b 7 = true) (h1_ : b 8 = false) => (show w73.heap[gb385]? = some (.cells #[.bool false, .int .i64 0, .int .i64 0, .int .i64 0, .bool false, .bool false] 52 (0, 0)) from by first | exact (blk_below (g := gb385) (o := .cells #[.bool false, .int .i64 0, .int .i64 0, .int .i64 0, .bool false, .bool false] 52 (0, 0)) (by (with_reducible repeat (first | refine bN ?_ _ | refine bD ?_ | refine bA ?_ _)); exact (Q_BK385 h0_ h1_)) hb))
    clear BK345
    clear BK346
    clear BK347
    clear BK366
    clear HB
    have BK345 := n0_
    have BK346 := n1_
    have BK347 := n2_
    have BK366 := n3_
    have HB := n4_
    clear n0_ n1_ n2_ n3_ n4_
    (try clear hb)
    (try clear hb2)
    (try clear hk)
    (try clear hi)
    refine hK.out _ _ ⟨gb385, m7_, (by rw [ha.out]; exact putSel_upk 5 hb_ rfl rfl rfl), (by (with_reducible repeat (first | refine bN ?_ _ | refine bD ?_ | refine bA ?_ _)); exact BK345.out), (by (with_reducible repeat (first | refine bN ?_ _ | refine bD ?_ | refine bA ?_ _)); exact BK346.out), (by (with_reducible repeat (first | refine bN ?_ _ | refine bD ?_ | refine bA ?_ _)); exact BK347.out), (by (with_reducible repeat (first | refine bN ?_ _ | refine bD ?_ | refine bA ?_ _)); exact BK366.out), (by repeat (first | (with_reducible first | exact HB.out | apply lA | apply lN | apply lD | refine lS ?_ GE345.out | refine lS ?_ GE346.out | refine lS ?_ GE347.out | refine lS ?_ GE366.out) | exact HB.out)), z_BK385, Q_GW385, Q_GE385, Q_NB345_385, Q_NB385_345, Q_NB346_385, Q_NB385_346, Q_NB347_385, Q_NB385_347, Q_NB366_385, Q_NB385_366, fun h0_ => absurd ((hoff 8 (by kernel_rfl)).symm.trans h0_) (by decide), Q_X7_⟩
   refine steps_cons ?_ ?_
   ·rintro b a w' ⟨gb385, m7_, ha, Q_BK345, Q_BK346, Q_BK347, Q_BK366, Q_HB, Q_BK385, Q_GW385, Q_GE385, Q_NB345_385, Q_NB385_345, Q_NB346_385, Q_NB385_346, Q_NB347_385, Q_NB385_347, Q_NB366_385, Q_NB385_366, Q_BK385_e8, Q_X7_⟩ hb_ hon hoff
    refine ⟨_, rfl, fun K hK => ?_⟩
    have e17 : a.tmps[17]? = some (.agg #[.int .i64 t367, .int .i64 t368, .int .i64 t369, .int .i64 t370, .int .i64 t371]) := by rw [ha]; exact putSel_on (e := (1, 17, .agg #[.int .i64 t367, .int .i64 t368, .int .i64 t369, .int .i64 t370, .int .i64 t371])) 1 rfl rfl (hon 1 (by kernel_rfl)) rfl
    have e19 : a.tmps[19]? = some (.agg #[.int .i64 t372, .int .i64 t373]) := by rw [ha]; exact putSel_on (e := (3, 19, .agg #[.int .i64 t372, .int .i64 t373])) 3 rfl rfl (hon 3 (by kernel_rfl)) rfl
    have e21 : a.tmps[21]? = some (.agg #[.int .i64 t374, .int .i64 t375, .int .i64 t376, .int .i64 t377, .bool t378]) := by rw [ha]; exact putSel_on (e := (5, 21, .agg #[.int .i64 t374, .int .i64 t375, .int .i64 t376, .int .i64 t377, .bool t378])) 5 rfl rfl (hon 5 (by kernel_rfl)) rfl
    replace ha := MK ha
    have BK345 := MK Q_BK345
    have BK346 := MK Q_BK346
    have BK347 := MK Q_BK347
    have BK366 := MK Q_BK366
    have HB := MK Q_HB
    refine goes_ Try.func36 (by kernel_rfl) rfl #[.agg #[.int .i64 t367, .int .i64 t368, .int .i64 t369, .int .i64 t370, .int .i64 t371], .agg #[.int .i64 t372, .int .i64 t373], .agg #[.int .i64 t374, .int .i64 t375, .int .i64 t376, .int .i64 t377, .bool t378]] (by rfl) rfl rfl (by first | (simp only [List.map_toArray, List.map_cons, List.map_nil, Act.eval, Array.getD_eq_getD_getElem?, Option.getD_some, e17, e19, e21]; done) | (simp only [List.map_toArray, List.map_cons, List.map_nil, Act.eval, Array.getD_eq_getD_getElem?, Option.getD_some, e17, e19, e21]; rfl)) ?_
    with_reducible refine (impl_Tick.calls k t367 t368 t369 t370 t371 t372 t373 t374 t375 t376 t377 t378 t379 t380 t381 t382 t383 t384 _ A11.out).mono ?_
    rintro e w74 ⟨rfl, hb⟩
    refine ⟨_, rfl, ?_⟩
    have n0_ := MK (blk_below (by (with_reducible repeat (first | refine bN ?_ _ | refine bD ?_ | refine bA ?_ _)); exact BK345.out) hb)
    have n1_ := MK (blk_below (by (with_reducible repeat (first | refine bN ?_ _ | refine bD ?_ | refine bA ?_ _)); exact BK346.out) hb)
    have n2_ := MK (blk_below (by (with_reducible repeat (first | refine bN ?_ _ | refine bD ?_ | refine bA ?_ _)); exact BK347.out) hb)
    have n3_ := MK (blk_below (by (with_reducible repeat (first | refine bN ?_ _ | refine bD ?_ | refine bA ?_ _)); exact BK366.out) hb)
    have n4_ := MK (below_step (by repeat (first | (with_reducible first | exact HB.out | apply lA | apply lN | apply lD | refine lS ?_ GE345.out | refine lS ?_ GE346.out | refine lS ?_ GE347.out | refine lS ?_ GE366.out) | exact HB.out)) hb)
    have z_BK385 := fun (h0_ : b 7 = true) (h1_ : b 8 = false) => (show w74.heap[gb385]? = some (.cells #[.bool false, .int .i64 0, .int .i64 0, .int .i64 0, .bool false, .bool false] 52 (0, 0)) from by first | exact (blk_below (g := gb385) (o := .cells #[.bool false, .int .i64 0, .int .i64 0, .int .i64 0, .bool false, .bool false] 52 (0, 0)) (by (with_reducible repeat (first | refine bN ?_ _ | refine bD ?_ | refine bA ?_ _)); exact (Q_BK385 h0_ h1_)) hb))
    clear BK345
    clear BK346
    clear BK347
    clear BK366
    clear HB
    have BK345 := n0_
    have BK346 := n1_
    have BK347 := n2_
    have BK366 := n3_
    have HB := n4_
    clear n0_ n1_ n2_ n3_ n4_
    (try clear hb)
    (try clear hb2)
    (try clear hk)
    (try clear hi)
    refine hK.out _ _ ⟨gb385, m7_, (by rw [ha.out]; exact putSel_upk 6 hb_ rfl rfl rfl), (by (with_reducible repeat (first | refine bN ?_ _ | refine bD ?_ | refine bA ?_ _)); exact BK345.out), (by (with_reducible repeat (first | refine bN ?_ _ | refine bD ?_ | refine bA ?_ _)); exact BK346.out), (by (with_reducible repeat (first | refine bN ?_ _ | refine bD ?_ | refine bA ?_ _)); exact BK347.out), (by (with_reducible repeat (first | refine bN ?_ _ | refine bD ?_ | refine bA ?_ _)); exact BK366.out), (by repeat (first | (with_reducible first | exact HB.out | apply lA | apply lN | apply lD | refine lS ?_ GE345.out | refine lS ?_ GE346.out | refine lS ?_ GE347.out | refine lS ?_ GE366.out) | exact HB.out)), z_BK385, Q_GW385, Q_GE385, Q_NB345_385, Q_NB385_345, Q_NB346_385, Q_NB385_346, Q_NB347_385, Q_NB385_347, Q_NB366_385, Q_NB385_366, fun h0_ => absurd ((hoff 8 (by kernel_rfl)).symm.trans h0_) (by decide), Q_X7_⟩
   refine steps_cons ?_ ?_
   ·rintro b a w' ⟨gb385, m7_, ha, Q_BK345, Q_BK346, Q_BK347, Q_BK366, Q_HB, Q_BK385, Q_GW385, Q_GE385, Q_NB345_385, Q_NB385_345, Q_NB346_385, Q_NB385_346, Q_NB347_385, Q_NB385_347, Q_NB366_385, Q_NB385_366, Q_BK385_e8, Q_X7_⟩ hb_ hon hoff
    refine ⟨_, rfl, fun K hK => ?_⟩
    replace ha := MK ha
    have BK345 := MK Q_BK345
    have BK346 := MK Q_BK346
    have BK347 := MK Q_BK347
    have BK366 := MK Q_BK366
    have HB := MK Q_HB
    refine box_step ?hg (N := 8) ?hd (cs := #[.bool false, .int .i64 0, .int .i64 0, .int .i64 0, .bool false, .bool false]) (t := 52) ?hr ?_; (case hd => rfl); (case hg => rfl); (case hr => first | (go_simp; done) | (go_simp; rfl))
    intro gb385 hg w70 hbox hb
    have n0_ := MK (blk_below (by (with_reducible repeat (first | refine bN ?_ _ | refine bD ?_ | refine bA ?_ _)); exact BK345.out) hb)
    have n1_ := MK (blk_below (by (with_reducible repeat (first | refine bN ?_ _ | refine bD ?_ | refine bA ?_ _)); exact BK346.out) hb)
    have n2_ := MK (blk_below (by (with_reducible repeat (first | refine bN ?_ _ | refine bD ?_ | refine bA ?_ _)); exact BK347.out) hb)
    have n3_ := MK (blk_below (by (with_reducible repeat (first | refine bN ?_ _ | refine bD ?_ | refine bA ?_ _)); exact BK366.out) hb)
    have n4_ := MK (below_step (by repeat (first | (with_reducible first | exact HB.out | apply lA | apply lN | apply lD | refine lS ?_ GE345.out | refine lS ?_ GE346.out | refine lS ?_ GE347.out | refine lS ?_ GE366.out) | exact HB.out)) hb)
    have n5_ := MK (hbox)
    have n6_ := MK ((by rw [hg]; exact (below_size (by repeat (first | (with_reducible first | exact HB.out | apply lA | apply lN | apply lD | refine lS ?_ GE345.out | refine lS ?_ GE346.out | refine lS ?_ GE347.out | refine lS ?_ GE366.out) | exact HB.out))) : w.heap.size ≤ gb385))
    have n7_ := MK ((by rw [hg]; exact (below_size (by repeat (first | (with_reducible first | exact HB.out | apply lA | apply lN | apply lD | refine lS ?_ GE345.out | refine lS ?_ GE346.out | refine lS ?_ GE347.out | refine lS ?_ GE366.out) | exact HB.out))) : w.heap.size ≤ gb385))
    have n8_ := MK ((by rw [hg]; exact Nat.ne_of_lt (blk_lt (by (with_reducible repeat (first | refine bN ?_ _ | refine bD ?_ | refine bA ?_ _)); exact BK345.out)) : gb345 ≠ gb385))
    have n9_ := MK ((by rw [hg]; exact Nat.ne_of_gt (blk_lt (by (with_reducible repeat (first | refine bN ?_ _ | refine bD ?_ | refine bA ?_ _)); exact BK345.out)) : gb385 ≠ gb345))
    have n10_ := MK ((by rw [hg]; exact Nat.ne_of_lt (blk_lt (by (with_reducible repeat (first | refine bN ?_ _ | refine bD ?_ | refine bA ?_ _)); exact BK346.out)) : gb346 ≠ gb385))
    have n11_ := MK ((by rw [hg]; exact Nat.ne_of_gt (blk_lt (by (with_reducible repeat (first | refine bN ?_ _ | refine bD ?_ | refine bA ?_ _)); exact BK346.out)) : gb385 ≠ gb346))
    have n12_ := MK ((by rw [hg]; exact Nat.ne_of_lt (blk_lt (by (with_reducible repeat (first | refine bN ?_ _ | refine bD ?_ | refine bA ?_ _)); exact BK347.out)) : gb347 ≠ gb385))
    have n13_ := MK ((by rw [hg]; exact Nat.ne_of_gt (blk_lt (by (with_reducible repeat (first | refine bN ?_ _ | refine bD ?_ | refine bA ?_ _)); exact BK347.out)) : gb385 ≠ gb347))
    have n14_ := MK ((by rw [hg]; exact Nat.ne_of_lt (blk_lt (by (with_reducible repeat (first | refine bN ?_ _ | refine bD ?_ | refine bA ?_ _)); exact BK366.out)) : gb366 ≠ gb385))
    have n15_ := MK ((by rw [hg]; exact Nat.ne_of_gt (blk_lt (by (with_reducible repeat (first | refine bN ?_ _ | refine bD ?_ | refine bA ?_ _)); exact BK366.out)) : gb385 ≠ gb366))
    clear BK345
    clear BK346
    clear BK347
    clear BK366
    clear HB
    have BK345 := n0_
    have BK346 := n1_
    have BK347 := n2_
    have BK366 := n3_
    have HB := n4_
    have BK385 := n5_
    have GW385 := n6_
    have GE385 := n7_
    have NB345_385 := n8_
    have NB385_345 := n9_
    have NB346_385 := n10_
    have NB385_346 := n11_
    have NB347_385 := n12_
    have NB385_347 := n13_
    have NB366_385 := n14_
    have NB385_366 := n15_
    clear n0_ n1_ n2_ n3_ n4_ n5_ n6_ n7_ n8_ n9_ n10_ n11_ n12_ n13_ n14_ n15_
    clear hb hbox hg
    refine hK.out _ _ ⟨gb385, (.pointer (some ⟨gb385, 0, none⟩)), (by rw [ha.out]; exact putSel_upk 7 hb_ rfl rfl rfl), (by (with_reducible repeat (first | refine bN ?_ _ | refine bD ?_ | refine bA ?_ _)); exact BK345.out), (by (with_reducible repeat (first | refine bN ?_ _ | refine bD ?_ | refine bA ?_ _)); exact BK346.out), (by (with_reducible repeat (first | refine bN ?_ _ | refine bD ?_ | refine bA ?_ _)); exact BK347.out), (by (with_reducible repeat (first | refine bN ?_ _ | refine bD ?_ | refine bA ?_ _)); exact BK366.out), (by repeat (first | (with_reducible first | exact HB.out | apply lA | apply lN | apply lD | refine lS ?_ GE345.out | refine lS ?_ GE346.out | refine lS ?_ GE347.out | refine lS ?_ GE366.out | refine lS ?_ GE385.out) | exact HB.out)), fun _ _ => (by (with_reducible repeat (first | refine bN ?_ _ | refine bD ?_ | refine bA ?_ _)); exact BK385.out), fun _ => GW385.out, fun _ => GE385.out, fun _ => NB345_385.out, fun _ => NB385_345.out, fun _ => NB346_385.out, fun _ => NB385_346.out, fun _ => NB347_385.out, fun _ => NB385_347.out, fun _ => NB366_385.out, fun _ => NB385_366.out, fun h0_ => absurd ((hoff 8 (by kernel_rfl)).symm.trans h0_) (by decide), fun _ => rfl⟩
   refine steps_cons ?_ ?_
   ·rintro b a w' ⟨gb385, m7_, ha, Q_BK345, Q_BK346, Q_BK347, Q_BK366, Q_HB, Q_BK385, Q_GW385, Q_GE385, Q_NB345_385, Q_NB385_345, Q_NB346_385, Q_NB385_346, Q_NB347_385, Q_NB385_347, Q_NB366_385, Q_NB385_366, Q_BK385_e8, Q_X7_⟩ hb_ hon hoff
    refine ⟨_, rfl, fun K hK => ?_⟩
    have e8 : a.tmps[8]? = some (m7_) := by rw [ha]; exact putSel_on (e := (7, 8, m7_)) 7 rfl rfl (hon 7 (by kernel_rfl)) rfl
    rw [Q_X7_ (hon 7 (by kernel_rfl))] at e8
    have e22 : a.tmps[22]? = some (.agg #[.bool t379, .int .i64 t380, .int .i64 t381, .int .i64 t382, .bool t383, .bool t384]) := by rw [ha]; exact putSel_on (e := (6, 22, .agg #[.bool t379, .int .i64 t380, .int .i64 t381, .int .i64 t382, .bool t383, .bool t384])) 6 rfl rfl (hon 6 (by kernel_rfl)) rfl
    replace ha := MK ha
    have BK345 := MK Q_BK345
    have BK346 := MK Q_BK346
    have BK347 := MK Q_BK347
    have BK366 := MK Q_BK366
    have HB := MK Q_HB
    have BK385 := MK (Q_BK385 (hon 7 (by kernel_rfl)) hb_)
    have GW385 := MK (Q_GW385 (hon 7 (by kernel_rfl)))
    have GE385 := MK (Q_GE385 (hon 7 (by kernel_rfl)))
    have NB345_385 := MK (Q_NB345_385 (hon 7 (by kernel_rfl)))
    have NB385_345 := MK (Q_NB385_345 (hon 7 (by kernel_rfl)))
    have NB346_385 := MK (Q_NB346_385 (hon 7 (by kernel_rfl)))
    have NB385_346 := MK (Q_NB385_346 (hon 7 (by kernel_rfl)))
    have NB347_385 := MK (Q_NB347_385 (hon 7 (by kernel_rfl)))
    have NB385_347 := MK (Q_NB385_347 (hon 7 (by kernel_rfl)))
    have NB366_385 := MK (Q_NB366_385 (hon 7 (by kernel_rfl)))
    have NB385_366 := MK (Q_NB385_366 (hon 7 (by kernel_rfl)))
    have hs76 : w'.cell? ⟨gb385, 0, none⟩ = some (.bool false) := (blk_cell BK385.out 0).trans rfl
    have hfs76 := blk_frozen BK385.out 0
    have hns76_0 := NB345_385.out
    have hns76_1 := NB346_385.out
    have hns76_2 := NB347_385.out
    have hns76_3 := NB366_385.out
    have hms76_0 := NB385_345.out
    have hms76_1 := NB385_346.out
    have hms76_2 := NB385_347.out
    have hms76_3 := NB385_366.out
    have hs77 : w'.cell? ⟨gb385, 1, none⟩ = some (.int .i64 0) := (blk_cell BK385.out 1).trans rfl
    have hfs77 := blk_frozen BK385.out 1
    have hs78 : w'.cell? ⟨gb385, 2, none⟩ = some (.int .i64 0) := (blk_cell BK385.out 2).trans rfl
    have hfs78 := blk_frozen BK385.out 2
    have hs79 : w'.cell? ⟨gb385, 3, none⟩ = some (.int .i64 0) := (blk_cell BK385.out 3).trans rfl
    have hfs79 := blk_frozen BK385.out 3
    have hs80 : w'.cell? ⟨gb385, 4, none⟩ = some (.bool false) := (blk_cell BK385.out 4).trans rfl
    have hfs80 := blk_frozen BK385.out 4
    have hs81 : w'.cell? ⟨gb385, 5, none⟩ = some (.bool false) := (blk_cell BK385.out 5).trans rfl
    have hfs81 := blk_frozen BK385.out 5
    refine skip_ (w1 := ?_) (by rfl) rfl ?_ ?_
    rotate_left
    ·go_simp
     rfl
    refine hK.out _ _ ⟨gb385, m7_, (by rw [ha.out]; exact putSel_none (v := undef) rfl), (by (with_reducible repeat (first | refine bN ?_ _ | refine bD ?_ | refine bA ?_ _)); refine blk_far ?_ NB345_385.out _; (with_reducible repeat (first | refine bN ?_ _ | refine bD ?_ | refine bA ?_ _)); refine blk_far ?_ NB345_385.out _; (with_reducible repeat (first | refine bN ?_ _ | refine bD ?_ | refine bA ?_ _)); refine blk_far ?_ NB345_385.out _; (with_reducible repeat (first | refine bN ?_ _ | refine bD ?_ | refine bA ?_ _)); refine blk_far ?_ NB345_385.out _; (with_reducible repeat (first | refine bN ?_ _ | refine bD ?_ | refine bA ?_ _)); refine blk_far ?_ NB345_385.out _; (with_reducible repeat (first | refine bN ?_ _ | refine bD ?_ | refine bA ?_ _)); refine blk_far ?_ NB345_385.out _; (with_reducible repeat (first | refine bN ?_ _ | refine bD ?_ | refine bA ?_ _)); exact BK345.out), (by (with_reducible repeat (first | refine bN ?_ _ | refine bD ?_ | refine bA ?_ _)); refine blk_far ?_ NB346_385.out _; (with_reducible repeat (first | refine bN ?_ _ | refine bD ?_ | refine bA ?_ _)); refine blk_far ?_ NB346_385.out _; (with_reducible repeat (first | refine bN ?_ _ | refine bD ?_ | refine bA ?_ _)); refine blk_far ?_ NB346_385.out _; (with_reducible repeat (first | refine bN ?_ _ | refine bD ?_ | refine bA ?_ _)); refine blk_far ?_ NB346_385.out _; (with_reducible repeat (first | refine bN ?_ _ | refine bD ?_ | refine bA ?_ _)); refine blk_far ?_ NB346_385.out _; (with_reducible repeat (first | refine bN ?_ _ | refine bD ?_ | refine bA ?_ _)); refine blk_far ?_ NB346_385.out _; (with_reducible repeat (first | refine bN ?_ _ | refine bD ?_ | refine bA ?_ _)); exact BK346.out), (by (with_reducible repeat (first | refine bN ?_ _ | refine bD ?_ | refine bA ?_ _)); refine blk_far ?_ NB347_385.out _; (with_reducible repeat (first | refine bN ?_ _ | refine bD ?_ | refine bA ?_ _)); refine blk_far ?_ NB347_385.out _; (with_reducible repeat (first | refine bN ?_ _ | refine bD ?_ | refine bA ?_ _)); refine blk_far ?_ NB347_385.out _; (with_reducible repeat (first | refine bN ?_ _ | refine bD ?_ | refine bA ?_ _)); refine blk_far ?_ NB347_385.out _; (with_reducible repeat (first | refine bN ?_ _ | refine bD ?_ | refine bA ?_ _)); refine blk_far ?_ NB347_385.out _; (with_reducible repeat (first | refine bN ?_ _ | refine bD ?_ | refine bA ?_ _)); refine blk_far ?_ NB347_385.out _; (with_reducible repeat (first | refine bN ?_ _ | refine bD ?_ | refine bA ?_ _)); exact BK347.out), (by (with_reducible repeat (first | refine bN ?_ _ | refine bD ?_ | refine bA ?_ _)); refine blk_far ?_ NB366_385.out _; (with_reducible repeat (first | refine bN ?_ _ | refine bD ?_ | refine bA ?_ _)); refine blk_far ?_ NB366_385.out _; (with_reducible repeat (first | refine bN ?_ _ | refine bD ?_ | refine bA ?_ _)); refine blk_far ?_ NB366_385.out _; (with_reducible repeat (first | refine bN ?_ _ | refine bD ?_ | refine bA ?_ _)); refine blk_far ?_ NB366_385.out _; (with_reducible repeat (first | refine bN ?_ _ | refine bD ?_ | refine bA ?_ _)); refine blk_far ?_ NB366_385.out _; (with_reducible repeat (first | refine bN ?_ _ | refine bD ?_ | refine bA ?_ _)); refine blk_far ?_ NB366_385.out _; (with_reducible repeat (first | refine bN ?_ _ | refine bD ?_ | refine bA ?_ _)); exact BK366.out), (by repeat (first | (with_reducible first | exact HB.out | apply lA | apply lN | apply lD | refine lS ?_ GE345.out | refine lS ?_ GE346.out | refine lS ?_ GE347.out | refine lS ?_ GE366.out | refine lS ?_ GE385.out) | exact HB.out)), fun _ h1_ => absurd ((up_self b 8).symm.trans h1_) (by decide), fun _ => GW385.out, fun _ => GE385.out, fun _ => NB345_385.out, fun _ => NB385_345.out, fun _ => NB346_385.out, fun _ => NB385_346.out, fun _ => NB347_385.out, fun _ => NB385_347.out, fun _ => NB366_385.out, fun _ => NB385_366.out, fun _ => (by (with_reducible repeat (first | refine bN ?_ _ | refine bD ?_ | refine bA ?_ _)); refine blk_put (cs := #[.bool t379, .int .i64 t380, .int .i64 t381, .int .i64 t382, .bool t383, .bool false]) ?_ 5 _ rfl; (with_reducible repeat (first | refine bN ?_ _ | refine bD ?_ | refine bA ?_ _)); refine blk_put (cs := #[.bool t379, .int .i64 t380, .int .i64 t381, .int .i64 t382, .bool false, .bool false]) ?_ 4 _ rfl; (with_reducible repeat (first | refine bN ?_ _ | refine bD ?_ | refine bA ?_ _)); refine blk_put (cs := #[.bool t379, .int .i64 t380, .int .i64 t381, .int .i64 0, .bool false, .bool false]) ?_ 3 _ rfl; (with_reducible repeat (first | refine bN ?_ _ | refine bD ?_ | refine bA ?_ _)); refine blk_put (cs := #[.bool t379, .int .i64 t380, .int .i64 0, .int .i64 0, .bool false, .bool false]) ?_ 2 _ rfl; (with_reducible repeat (first | refine bN ?_ _ | refine bD ?_ | refine bA ?_ _)); refine blk_put (cs := #[.bool t379, .int .i64 0, .int .i64 0, .int .i64 0, .bool false, .bool false]) ?_ 1 _ rfl; (with_reducible repeat (first | refine bN ?_ _ | refine bD ?_ | refine bA ?_ _)); refine blk_put (cs := #[.bool false, .int .i64 0, .int .i64 0, .int .i64 0, .bool false, .bool false]) ?_ 0 _ rfl; (with_reducible repeat (first | refine bN ?_ _ | refine bD ?_ | refine bA ?_ _)); exact BK385.out), Q_X7_⟩
   exact steps_nil
  rintro b a w81 hall ⟨gb385, m7_, ha, Q_BK345, Q_BK346, Q_BK347, Q_BK366, Q_HB, Q_BK385, Q_GW385, Q_GE385, Q_NB345_385, Q_NB385_345, Q_NB346_385, Q_NB385_346, Q_NB347_385, Q_NB385_347, Q_NB366_385, Q_NB385_366, Q_BK385_e8, Q_X7_⟩
  clear BK345 BK346 BK347 BK366 HB
  have hb0_ := hall 0 (by kernel_rfl)
  have hb1_ := hall 1 (by kernel_rfl)
  have hb2_ := hall 2 (by kernel_rfl)
  have hb3_ := hall 3 (by kernel_rfl)
  have hb4_ := hall 4 (by kernel_rfl)
  have hb5_ := hall 5 (by kernel_rfl)
  have hb6_ := hall 6 (by kernel_rfl)
  have hb7_ := hall 7 (by kernel_rfl)
  have hb8_ := hall 8 (by kernel_rfl)
  subst ha
  obtain rfl := Q_X7_ hb7_
  simp only [putSel, hb0_, hb1_, hb2_, hb3_, hb4_, hb5_, hb6_, hb7_, hb8_, if_true, Act.put, List.setIfInBounds_toArray, List.set_cons_zero, List.set_cons_succ]
  have BK345 := MK Q_BK345
  clear Q_BK345
  have BK346 := MK Q_BK346
  clear Q_BK346
  have BK347 := MK Q_BK347
  clear Q_BK347
  have BK366 := MK Q_BK366
  clear Q_BK366
  have HB := MK Q_HB
  clear Q_HB
  clear Q_BK385
  have GW385 := MK (Q_GW385 hb7_)
  clear Q_GW385
  have GE385 := MK (Q_GE385 hb7_)
  clear Q_GE385
  have NB345_385 := MK (Q_NB345_385 hb7_)
  clear Q_NB345_385
  have NB385_345 := MK (Q_NB385_345 hb7_)
  clear Q_NB385_345
  have NB346_385 := MK (Q_NB346_385 hb7_)
  clear Q_NB346_385
  have NB385_346 := MK (Q_NB385_346 hb7_)
  clear Q_NB385_346
  have NB347_385 := MK (Q_NB347_385 hb7_)
  clear Q_NB347_385
  have NB385_347 := MK (Q_NB385_347 hb7_)
  clear Q_NB385_347
  have NB366_385 := MK (Q_NB366_385 hb7_)
  clear Q_NB366_385
  have NB385_366 := MK (Q_NB385_366 hb7_)
  clear Q_NB385_366
  have BK385 := MK (Q_BK385_e8 hb8_)
  clear Q_BK385_e8
  clear hall hb0_ hb1_ hb2_ hb3_ hb4_ hb5_ hb6_ hb7_ hb8_
  have hnb82 := NB385_345.out
  have hnc82 := NB345_385.out
  have hnb83 := NB385_346.out
  have hnc83 := NB346_385.out
  have hnb84 := NB385_347.out
  have hnc84 := NB347_385.out
  have hnb85 := NB385_366.out
  have hnc85 := NB366_385.out
  have hcz86_0 : w81.cell? ⟨gb385, 0, none⟩ = some (.bool t379) := (blk_cell BK385.out 0).trans rfl
  have hcz86_1 : w81.cell? ⟨gb385, 1, none⟩ = some (.int .i64 t380) := (blk_cell BK385.out 1).trans rfl
  have hcz86_2 : w81.cell? ⟨gb385, 2, none⟩ = some (.int .i64 t381) := (blk_cell BK385.out 2).trans rfl
  have hcz86_3 : w81.cell? ⟨gb385, 3, none⟩ = some (.int .i64 t382) := (blk_cell BK385.out 3).trans rfl
  have hcz86_4 : w81.cell? ⟨gb385, 4, none⟩ = some (.bool t383) := (blk_cell BK385.out 4).trans rfl
  have hcz86_5 : w81.cell? ⟨gb385, 5, none⟩ = some (.bool t384) := (blk_cell BK385.out 5).trans rfl
  obtain ⟨hfz86_0, hfz86_1, hfz86_2, hfz86_3, hfz86_4, hfz86_5⟩ := bf6 BK385.out
  have hnb87 := NB366_345.out
  have hnc87 := NB345_366.out
  have hnb88 := NB366_346.out
  have hnc88 := NB346_366.out
  have hnb89 := NB366_347.out
  have hnc89 := NB347_366.out
  have hcz90_0 : w81.cell? ⟨gb366, 0, none⟩ = some (.bool t360) := (blk_cell BK366.out 0).trans rfl
  have hcz90_1 : w81.cell? ⟨gb366, 1, none⟩ = some (.int .i64 t361) := (blk_cell BK366.out 1).trans rfl
  have hcz90_2 : w81.cell? ⟨gb366, 2, none⟩ = some (.int .i64 t362) := (blk_cell BK366.out 2).trans rfl
  have hcz90_3 : w81.cell? ⟨gb366, 3, none⟩ = some (.int .i64 t363) := (blk_cell BK366.out 3).trans rfl
  have hcz90_4 : w81.cell? ⟨gb366, 4, none⟩ = some (.bool t364) := (blk_cell BK366.out 4).trans rfl
  have hcz90_5 : w81.cell? ⟨gb366, 5, none⟩ = some (.bool t365) := (blk_cell BK366.out 5).trans rfl
  obtain ⟨hfz90_0, hfz90_1, hfz90_2, hfz90_3, hfz90_4, hfz90_5⟩ := bf6 BK366.out
  try go_wp2_with (first | ((with_reducible refine gate_callee (f := 37) rfl ?_); refine goesL_ (some 25) rfl rfl Try.func37 (by kernel_rfl) rfl #[.agg #[.bool t379, .int .i64 t380, .int .i64 t381, .int .i64 t382, .bool t383, .bool t384], .agg #[.bool t360, .int .i64 t361, .int .i64 t362, .int .i64 t363, .bool t364, .bool t365]] rfl (by (try simp only [List.map_toArray, List.map_cons, List.map_nil]); first | done | rfl | (simp only [List.length_drop, List.length_take]; rfl)) ?_; (with_reducible refine (laws_eqSaid.calls t379 t380 t381 t382 t383 t384 t360 t361 t362 t363 t364 t365 false _ A12.out).mono ?_); rintro e w91 ⟨rfl, hb⟩; refine ⟨_, rfl, ?_⟩; have n0_ := MK (blk_below (by (with_reducible repeat (first | refine bN ?_ _ | refine bD ?_ | refine bA ?_ _)); exact BK345.out) hb); have n1_ := MK (blk_below (by (with_reducible repeat (first | refine bN ?_ _ | refine bD ?_ | refine bA ?_ _)); exact BK346.out) hb); have n2_ := MK (blk_below (by (with_reducible repeat (first | refine bN ?_ _ | refine bD ?_ | refine bA ?_ _)); exact BK347.out) hb); have n3_ := MK (blk_below (by (with_reducible repeat (first | refine bN ?_ _ | refine bD ?_ | refine bA ?_ _)); exact BK366.out) hb); have n4_ := MK (blk_below (by (with_reducible repeat (first | refine bN ?_ _ | refine bD ?_ | refine bA ?_ _)); exact BK385.out) hb); have n5_ := MK (below_step (by repeat (first | (with_reducible first | exact HB.out | apply lA | apply lN | apply lD | refine lS ?_ GE345.out | refine lS ?_ GE346.out | refine lS ?_ GE347.out | refine lS ?_ GE366.out | refine lS ?_ GE385.out) | exact HB.out)) hb); clear BK345; clear BK346; clear BK347; clear BK366; clear BK385; clear HB; have BK345 := n0_; have BK346 := n1_; have BK347 := n2_; have BK366 := n3_; have BK385 := n4_; have HB := n5_; clear n0_ n1_ n2_ n3_ n4_ n5_; (try clear hb); (try clear hb2); (try clear hk); (try clear hi)))
  go_ret
  exact ⟨by first | rfl | (simp [errW_none, errW_some] <;> rfl) | (simp [*, errW_none, errW_some] <;> rfl), by repeat (first | (with_reducible first | exact HB.out | apply lA | apply lN | apply lD | refine lS ?_ GE345.out | refine lS ?_ GE346.out | refine lS ?_ GE347.out | refine lS ?_ GE366.out | refine lS ?_ GE385.out) | exact HB.out)⟩

end Go.Proofs.Ytnikfadkmhcalaa.Q
