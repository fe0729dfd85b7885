/- Walks: a call of each function answers what its Lean function tells; no condition but that it tells something. -/
import Derived.Test.YtcfhjidddpoijaaXNQ0
import Derived.Test.YtcfhjidddpoijaaXNQ2
namespace Go.Proofs.Ytcfhjidddpoijaa.Q
open Go.RowKit Go.Proofs.YtcfhjidddpoijaaW.PrintWords Go.Proofs.YtcfhjidddpoijaaW.PrintLast Go.Proofs.YtcfhjidddpoijaaW.PrintMore
attribute [local go_sem] max2_int min2_int max_two min_two max_three min_three max_four min_four   -- for this text's walks alone
set_option linter.unusedVariables false
set_option linter.unusedSimpArgs false

/-! ### spec_l4Cur_oddbrakes: function 56 -/
def spec_l4Cur_oddbrakes.f (s0_0 : List Int) (s0_1 : Int) (s0_2 : Int) (a1_0 : Int) (a1_1 : Int) (a1_2 : Int) (a1_3 : Int) (a1_4 : Int) : Option (Int × Int × Int × Int × Int × Int × Int) := (spec_l4Cur_pick.f s0_0 s0_1 s0_2 5).bind fun bt396 => (if bt396.1 = 0 then ((some (([9, 10, a1_1, wrap64 (a1_1 + 1)] : List Int) : List Int)).bind fun y399 => ((spec_l4Cur_pick.f s0_0 bt396.2.1 bt396.2.2 4).bind fun bt402 => (if 0 ≤ bt402.1 then (if bt402.1 < (y399.length : Int) then (some (rd y399 bt402.1, a1_1, a1_2, a1_3, a1_4, bt402.2.1, bt402.2.2)) else (none)) else (none)))) else (if bt396.1 = 1 then ((some (([1000, 1001, wrap64 (a1_0 - 1)] : List Int) : List Int)).bind fun y406 => ((spec_l4Cur_pick.f s0_0 bt396.2.1 bt396.2.2 3).bind fun bt409 => (if 0 ≤ bt409.1 then (if bt409.1 < (y406.length : Int) then (some (a1_0, rd y406 bt409.1, a1_2, a1_3, a1_4, bt409.2.1, bt409.2.2)) else (none)) else (none)))) else (if bt396.1 = 2 then ((some (([(-1), 20, 21] : List Int) : List Int)).bind fun y413 => ((spec_l4Cur_pick.f s0_0 bt396.2.1 bt396.2.2 3).bind fun bt416 => (if 0 ≤ bt416.1 then (if bt416.1 < (y413.length : Int) then (some (a1_0, a1_1, rd y413 bt416.1, a1_3, a1_4, bt416.2.1, bt416.2.2)) else (none)) else (none)))) else (if bt396.1 = 3 then ((some (([(-1), 100, 101] : List Int) : List Int)).bind fun y420 => ((spec_l4Cur_pick.f s0_0 bt396.2.1 bt396.2.2 3).bind fun bt423 => (if 0 ≤ bt423.1 then (if bt423.1 < (y420.length : Int) then (some (a1_0, a1_1, a1_2, rd y420 bt423.1, a1_4, bt423.2.1, bt423.2.2)) else (none)) else (none)))) else ((some (([(-1), 60, 61] : List Int) : List Int)).bind fun y427 => ((spec_l4Cur_pick.f s0_0 bt396.2.1 bt396.2.2 3).bind fun bt430 => (if 0 ≤ bt430.1 then (if bt430.1 < (y427.length : Int) then (some (a1_0, a1_1, a1_2, a1_3, rd y427 bt430.1, bt430.2.1, bt430.2.2)) else (none)) else (none))))))))
def spec_l4Cur_oddbrakes.T4 : Bool × List (List Nat × List Nat) := (true, [([], []), ([0], [0]), ([], []), ([2], [2]), ([3], [3]), ([1, 4], [1, 4]), ([], []), ([6], [6]), ([5, 7], [5, 7]), ([8], [8]), ([0, 1, 2, 3, 4, 5, 6, 7, 8, 9], []), ([10, 9, 7, 0, 1, 2, 3, 4, 5, 6, 7, 8, 9], [9, 10])])
def spec_l4Cur_oddbrakes.B4 : List Nat := [0, 1, 0, 4, 12, 31, 0, 64, 255, 511, 1023, 2047]
theorem spec_l4Cur_oddbrakes.tab4 : rtab .any (opsOf Try.f56 4) = spec_l4Cur_oddbrakes.T4 := by kernel_rfl
theorem spec_l4Cur_oddbrakes.bits4 : waitsOk spec_l4Cur_oddbrakes.T4.2 spec_l4Cur_oddbrakes.B4 = true := by kernel_rfl
def spec_l4Cur_oddbrakes.T6 : Bool × List (List Nat × List Nat) := (true, [([], []), ([0], [0]), ([1], [1]), ([2], [2]), ([], []), ([4], [4]), ([3, 5], [3, 5]), ([6], [6]), ([0, 1, 2, 3, 4, 5, 6, 7], []), ([8, 7, 5, 0, 1, 2, 3, 4, 5, 6, 7], [7, 8])])
def spec_l4Cur_oddbrakes.B6 : List Nat := [0, 1, 3, 7, 0, 16, 63, 127, 255, 511]
theorem spec_l4Cur_oddbrakes.tab6 : rtab .any (opsOf Try.f56 6) = spec_l4Cur_oddbrakes.T6 := by kernel_rfl
theorem spec_l4Cur_oddbrakes.bits6 : waitsOk spec_l4Cur_oddbrakes.T6.2 spec_l4Cur_oddbrakes.B6 = true := by kernel_rfl
set_option maxHeartbeats 8000000 in
set_option maxRecDepth 100000 in
theorem spec_l4Cur_oddbrakes.calls (g : Nat) (s0_0 : List Int) (s0_1 : Int) (s0_2 : Int) (a1_0 : Int) (a1_1 : Int) (a1_2 : Int) (a1_3 : Int) (a1_4 : Int) (r1 : Int) (r2 : Int) (r3 : Int) (r4 : Int) (r5 : Int) (r6 : Int) (r7 : Int) (w0 w : World) (hI : IsS57 w0 w g s0_0 s0_1 s0_2) (hB : Below w0.heap.size w0 w) (h : spec_l4Cur_oddbrakes.f s0_0 s0_1 s0_2 a1_0 a1_1 a1_2 a1_3 a1_4 = some (r1, r2, r3, r4, r5, r6, r7)) :
  Calls Try.prog 56 #[.pointer (some ⟨g, 0, none⟩), .agg #[.int .i64 a1_0, .int .i64 a1_1, .int .i64 a1_2, .int .i64 a1_3, .int .i64 a1_4]] w fun e w' => e = .returned (.agg #[.int .i64 r1, .int .i64 r2, .int .i64 r3, .int .i64 r4, .int .i64 r5]) ∧ IsS57 w0 w' g s0_0 r6 r7 ∧ Below w0.heap.size w0 w' ∧ KeepBut w w' g none := by
 have hu24 := Try.underlying24
 have HI0 := MK hI
 have HK := MK (KeepBut.refl w g none)
 have HL := MK hB.size
 clear hI
 have HW0 := MK hB.size
 have HB := MK hB
 clear hB
 have H : ((spec_l4Cur_pick.f s0_0 s0_1 s0_2 5).bind fun bt396 => (if bt396.1 = 0 then ((some (([9, 10, a1_1, wrap64 (a1_1 + 1)] : List Int) : List Int)).bind fun y399 => ((spec_l4Cur_pick.f s0_0 bt396.2.1 bt396.2.2 4).bind fun bt402 => (if 0 ≤ bt402.1 then (if bt402.1 < (y399.length : Int) then (some (rd y399 bt402.1, a1_1, a1_2, a1_3, a1_4, bt402.2.1, bt402.2.2)) else (none)) else (none)))) else (if bt396.1 = 1 then ((some (([1000, 1001, wrap64 (a1_0 - 1)] : List Int) : List Int)).bind fun y406 => ((spec_l4Cur_pick.f s0_0 bt396.2.1 bt396.2.2 3).bind fun bt409 => (if 0 ≤ bt409.1 then (if bt409.1 < (y406.length : Int) then (some (a1_0, rd y406 bt409.1, a1_2, a1_3, a1_4, bt409.2.1, bt409.2.2)) else (none)) else (none)))) else (if bt396.1 = 2 then ((some (([(-1), 20, 21] : List Int) : List Int)).bind fun y413 => ((spec_l4Cur_pick.f s0_0 bt396.2.1 bt396.2.2 3).bind fun bt416 => (if 0 ≤ bt416.1 then (if bt416.1 < (y413.length : Int) then (some (a1_0, a1_1, rd y413 bt416.1, a1_3, a1_4, bt416.2.1, bt416.2.2)) else (none)) else (none)))) else (if bt396.1 = 3 then ((some (([(-1), 100, 101] : List Int) : List Int)).bind fun y420 => ((spec_l4Cur_pick.f s0_0 bt396.2.1 bt396.2.2 3).bind fun bt423 => (if 0 ≤ bt423.1 then (if bt423.1 < (y420.length : Int) then (some (a1_0, a1_1, a1_2, rd y420 bt423.1, a1_4, bt423.2.1, bt423.2.2)) else (none)) else (none)))) else ((some (([(-1), 60, 61] : List Int) : List Int)).bind fun y427 => ((spec_l4Cur_pick.f s0_0 bt396.2.1 bt396.2.2 3).bind fun bt430 => (if 0 ≤ bt430.1 then (if bt430.1 < (y427.length : Int) then (some (a1_0, a1_1, a1_2, a1_3, rd y427 bt430.1, bt430.2.1, bt430.2.2)) else (none)) else (none))))))))) = some (r1, r2, r3, r4, r5, r6, r7) := h
 clear h
 replace H := Option.bind_eq_some_iff.mp H
 obtain ⟨⟨t396, t397, t398⟩, A30, H⟩ := H
 replace H : (if t396 = 0 then ((some (([9, 10, a1_1, wrap64 (a1_1 + 1)] : List Int) : List Int)).bind fun y399 => ((spec_l4Cur_pick.f s0_0 t397 t398 4).bind fun bt402 => (if 0 ≤ bt402.1 then (if bt402.1 < (y399.length : Int) then (some (rd y399 bt402.1, a1_1, a1_2, a1_3, a1_4, bt402.2.1, bt402.2.2)) else (none)) else (none)))) else (if t396 = 1 then ((some (([1000, 1001, wrap64 (a1_0 - 1)] : List Int) : List Int)).bind fun y406 => ((spec_l4Cur_pick.f s0_0 t397 t398 3).bind fun bt409 => (if 0 ≤ bt409.1 then (if bt409.1 < (y406.length : Int) then (some (a1_0, rd y406 bt409.1, a1_2, a1_3, a1_4, bt409.2.1, bt409.2.2)) else (none)) else (none)))) else (if t396 = 2 then ((some (([(-1), 20, 21] : List Int) : List Int)).bind fun y413 => ((spec_l4Cur_pick.f s0_0 t397 t398 3).bind fun bt416 => (if 0 ≤ bt416.1 then (if bt416.1 < (y413.length : Int) then (some (a1_0, a1_1, rd y413 bt416.1, a1_3, a1_4, bt416.2.1, bt416.2.2)) else (none)) else (none)))) else (if t396 = 3 then ((some (([(-1), 100, 101] : List Int) : List Int)).bind fun y420 => ((spec_l4Cur_pick.f s0_0 t397 t398 3).bind fun bt423 => (if 0 ≤ bt423.1 then (if bt423.1 < (y420.length : Int) then (some (a1_0, a1_1, a1_2, rd y420 bt423.1, a1_4, bt423.2.1, bt423.2.2)) else (none)) else (none)))) else ((some (([(-1), 60, 61] : List Int) : List Int)).bind fun y427 => ((spec_l4Cur_pick.f s0_0 t397 t398 3).bind fun bt430 => (if 0 ≤ bt430.1 then (if bt430.1 < (y427.length : Int) then (some (a1_0, a1_1, a1_2, a1_3, rd y427 bt430.1, bt430.2.1, bt430.2.2)) else (none)) else (none)))))))) = some (r1, r2, r3, r4, r5, r6, r7) := H
 have A3 := MK A30
 clear A30
 have HC4 := MK H
 clear H
 go_enter Try.func56, Try.ntmps56
 go_upto_if 13 with (first | ((with_reducible refine gate_dst (N := 3) rfl ?_); refine box_event ?hg (N := 3) ?hd (cs := #[.int .i64 a1_0, .int .i64 a1_1, .int .i64 a1_2, .int .i64 a1_3, .int .i64 a1_4]) (t := 24) ?hr ?_; (case hd => rfl); (case hg => rfl); (case hr => first | (go_simp; done) | (go_simp; rfl)); intro gb394 hg w5 hbox hb; have n0_ := MK (IsS57.below (by repeat (first | (with_reducible first | exact HI0.out | apply IsS57.alloc | apply IsS57.drewN | apply IsS57.drew | apply IsS57.set_1 | apply IsS57.set_2) | exact HI0.out)) hb); have n1_ := MK (KeepBut.trans (by repeat (first | (with_reducible first | exact HK.out | apply KeepBut.set_ | apply keep_drewN | apply keep_drew | apply keep_alloc) | exact HK.out)) (KeepBut.of_below hb g none) (.inl rfl)); have n2_ := MK (below_step (by repeat (first | (with_reducible first | exact HB.out | apply lA | apply lN | apply lD | refine lS ?_ (IsS57.ge HI0.out)) | exact HB.out)) hb); have n3_ := MK (hbox); have n4_ := MK ((by rw [hg]; exact (keep_size (w := w) (g := g) (row := none) (by repeat (first | (with_reducible first | exact HK.out | apply KeepBut.set_ | apply keep_drewN | apply keep_drew | apply keep_alloc) | exact HK.out))) : w.heap.size ≤ gb394)); have n5_ := MK ((Nat.le_trans HW0.out (by rw [hg]; exact (keep_size (w := w) (g := g) (row := none) (by repeat (first | (with_reducible first | exact HK.out | apply KeepBut.set_ | apply keep_drewN | apply keep_drew | apply keep_alloc) | exact HK.out))) : w.heap.size ≤ gb394) : w0.heap.size ≤ gb394)); have n6_ := MK ((by rw [hg]; exact Nat.ne_of_lt (IsS57.lt (show IsS57 w0 _ g s0_0 s0_1 s0_2 from by repeat (first | (with_reducible first | exact HI0.out | apply IsS57.alloc | apply IsS57.drewN | apply IsS57.drew | apply IsS57.set_1 | apply IsS57.set_2) | exact HI0.out))) : g ≠ gb394)); have n7_ := MK ((by rw [hg]; exact Nat.ne_of_gt (IsS57.lt (show IsS57 w0 _ g s0_0 s0_1 s0_2 from by repeat (first | (with_reducible first | exact HI0.out | apply IsS57.alloc | apply IsS57.drewN | apply IsS57.drew | apply IsS57.set_1 | apply IsS57.set_2) | exact HI0.out))) : gb394 ≠ g)); clear HI0; clear HK; clear HB; have HI0 := n0_; have HK := n1_; have HB := n2_; have BK394 := n3_; have GW394 := n4_; have GE394 := n5_; have NB0_394 := n6_; have NB394_0 := n7_; clear n0_ n1_ n2_ n3_ n4_ n5_ n6_ n7_; clear hb hbox hg) | ((with_reducible refine gate_dst (N := 4) rfl ?_); refine box_event ?hg (N := 4) ?hd (cs := #[.int .i64 0, .int .i64 0, .int .i64 0, .int .i64 0, .int .i64 0]) (t := 24) ?hr ?_; (case hd => rfl); (case hg => rfl); (case hr => first | (go_simp; done) | (go_simp; rfl)); intro gb395 hg w6 hbox hb; have n0_ := MK (IsS57.below (by repeat (first | (with_reducible first | exact HI0.out | apply IsS57.alloc | apply IsS57.drewN | apply IsS57.drew | apply IsS57.set_1 | apply IsS57.set_2 | refine IsS57.far ?_ NB0_394.out _) | exact HI0.out)) hb); have n1_ := MK (blk_below (by (with_reducible repeat (first | refine bN ?_ _ | refine bD ?_ | refine bA ?_ _)); exact BK394.out) hb); have n2_ := MK (KeepBut.trans (by repeat (first | (with_reducible first | exact HK.out | apply KeepBut.set_ | apply keep_drewN | apply keep_drew | apply keep_alloc | refine keep_far ?_ GW394.out _) | exact HK.out)) (KeepBut.of_below hb g none) (.inl rfl)); have n3_ := MK (below_step (by repeat (first | (with_reducible first | exact HB.out | apply lA | apply lN | apply lD | refine lS ?_ (IsS57.ge HI0.out) | refine lS ?_ GE394.out) | exact HB.out)) hb); have n4_ := MK (hbox); have n5_ := MK ((by rw [hg]; exact (keep_size (w := w) (g := g) (row := none) (by repeat (first | (with_reducible first | exact HK.out | apply KeepBut.set_ | apply keep_drewN | apply keep_drew | apply keep_alloc | refine keep_far ?_ GW394.out _) | exact HK.out))) : w.heap.size ≤ gb395)); have n6_ := MK ((Nat.le_trans HW0.out (by rw [hg]; exact (keep_size (w := w) (g := g) (row := none) (by repeat (first | (with_reducible first | exact HK.out | apply KeepBut.set_ | apply keep_drewN | apply keep_drew | apply keep_alloc | refine keep_far ?_ GW394.out _) | exact HK.out))) : w.heap.size ≤ gb395) : w0.heap.size ≤ gb395)); have n7_ := MK ((by rw [hg]; exact Nat.ne_of_lt (blk_lt (by (with_reducible repeat (first | refine bN ?_ _ | refine bD ?_ | refine bA ?_ _)); exact BK394.out)) : gb394 ≠ gb395)); have n8_ := MK ((by rw [hg]; exact Nat.ne_of_gt (blk_lt (by (with_reducible repeat (first | refine bN ?_ _ | refine bD ?_ | refine bA ?_ _)); exact BK394.out)) : gb395 ≠ gb394)); have n9_ := MK ((by rw [hg]; exact Nat.ne_of_lt (IsS57.lt (show IsS57 w0 _ g s0_0 s0_1 s0_2 from by repeat (first | (with_reducible first | exact HI0.out | apply IsS57.alloc | apply IsS57.drewN | apply IsS57.drew | apply IsS57.set_1 | apply IsS57.set_2 | refine IsS57.far ?_ NB0_394.out _) | exact HI0.out))) : g ≠ gb395)); have n10_ := MK ((by rw [hg]; exact Nat.ne_of_gt (IsS57.lt (show IsS57 w0 _ g s0_0 s0_1 s0_2 from by repeat (first | (with_reducible first | exact HI0.out | apply IsS57.alloc | apply IsS57.drewN | apply IsS57.drew | apply IsS57.set_1 | apply IsS57.set_2 | refine IsS57.far ?_ NB0_394.out _) | exact HI0.out))) : gb395 ≠ g)); clear HI0; clear BK394; clear HK; clear HB; have HI0 := n0_; have BK394 := n1_; have HK := n2_; have HB := n3_; have BK395 := n4_; have GW395 := n5_; have GE395 := n6_; have NB394_395 := n7_; have NB395_394 := n8_; have NB0_395 := n9_; have NB395_0 := n10_; clear n0_ n1_ n2_ n3_ n4_ n5_ n6_ n7_ n8_ n9_ n10_; clear hb hbox hg) | ((with_reducible refine gate_callee (f := 45) rfl ?_); refine goesL_ (some 6) rfl rfl Try.func45 (by kernel_rfl) rfl #[.pointer (some ⟨g, 0, none⟩), .int .i64 5] rfl (by (try simp only [List.map_toArray, List.map_cons, List.map_nil]); first | done | rfl | (simp only [List.length_drop, List.length_take]; rfl)) ?_; (with_reducible refine (spec_l4Cur_pick.calls g s0_0 s0_1 s0_2 5 t396 t397 t398 w0 _ ?side1 ?side2 A3.out).mono ?_); (case side1 => repeat (first | (with_reducible first | exact HI0.out | apply IsS57.alloc | apply IsS57.drewN | apply IsS57.drew | apply IsS57.set_1 | apply IsS57.set_2 | refine IsS57.far ?_ NB0_394.out _ | refine IsS57.far ?_ NB0_395.out _) | exact HI0.out)); (case side2 => repeat (first | (with_reducible first | exact HB.out | apply lA | apply lN | apply lD | refine lS ?_ (IsS57.ge HI0.out) | refine lS ?_ GE394.out | refine lS ?_ GE395.out) | exact HB.out)); rintro e w7 ⟨rfl, hi, hb, hk⟩; refine ⟨_, rfl, ?_⟩; have n0_ := MK (KeepBut.blk hk (g' := gb394) (o := .cells #[.int .i64 a1_0, .int .i64 a1_1, .int .i64 a1_2, .int .i64 a1_3, .int .i64 a1_4] 24 (0, 0)) (by (with_reducible repeat (first | refine bN ?_ _ | refine bD ?_ | refine bA ?_ _)); exact BK394.out) NB394_0.out (by simp)); have n1_ := MK (KeepBut.blk hk (g' := gb395) (o := .cells #[.int .i64 0, .int .i64 0, .int .i64 0, .int .i64 0, .int .i64 0] 24 (0, 0)) (by (with_reducible repeat (first | refine bN ?_ _ | refine bD ?_ | refine bA ?_ _)); exact BK395.out) NB395_0.out (by simp)); have n2_ := MK (KeepBut.trans (by repeat (first | (with_reducible first | exact HK.out | apply KeepBut.set_ | apply keep_drewN | apply keep_drew | apply keep_alloc | refine keep_far ?_ GW394.out _ | refine keep_far ?_ GW395.out _) | exact HK.out)) hk (.inl rfl)); have n3_ := MK (hb); have n4_ := MK (hi); clear BK394; clear BK395; clear HK; clear HB; clear HI0; have BK394 := n0_; have BK395 := n1_; have HK := n2_; have HB := n3_; have HI0 := n4_; clear n0_ n1_ n2_ n3_ n4_; (try clear hb); (try clear hb2); (try clear hk); (try clear hi)))
 (try simp only [Act.put, List.setIfInBounds_toArray, List.set_cons_zero, List.set_cons_succ])
 have H := HC4.out
 clear HC4
 by_cases c8 : t396 = 0
 ·rw [if_pos c8] at H
  have c8b0 : (t396 == 0) = true := beq_iff_eq.mpr c8
  have c8b1 : (t396 != 0) = false := bne_eq_false_iff_eq.mpr c8
  clear c8
  (first | rw [c8b0] | (simp only [i64_w, i32_w]; rw [c8b0]) | rw [c8b1] | skip)
  obtain ⟨y399, hy399⟩ : ∃ y_ : List Int, y_ = (([9, 10, a1_1, wrap64 (a1_1 + 1)] : List Int)) := ⟨_, rfl⟩
  replace H : ((spec_l4Cur_pick.f s0_0 t397 t398 4).bind fun bt402 => (if 0 ≤ bt402.1 then (if bt402.1 < (y399.length : Int) then (some (rd y399 bt402.1, a1_1, a1_2, a1_3, a1_4, bt402.2.1, bt402.2.2)) else (none)) else (none))) = some (r1, r2, r3, r4, r5, r6, r7) := by first | (rw [hy399]; with_reducible exact H) | (have H2_ := (Option.bind_some _ _).symm.trans H; rw [hy399]; with_reducible exact H2_) | (have H2_ := (Option.bind_some _ _).symm.trans H; with_reducible exact H2_) | with_reducible exact H | (rw [hy399]; exact H) | exact H
  have Ny399 := MK hy399
  clear hy399
  replace H := Option.bind_eq_some_iff.mp H
  obtain ⟨⟨t402, t403, t404⟩, A90, H⟩ := H
  replace H : (if 0 ≤ t402 then (if t402 < (y399.length : Int) then (some (rd y399 t402, a1_1, a1_2, a1_3, a1_4, t403, t404)) else (none)) else (none)) = some (r1, r2, r3, r4, r5, r6, r7) := H
  have A9 := MK A90
  clear A90
  by_cases c10 : 0 ≤ t402
  ·rw [if_pos c10] at H
   have c10b0 : decide (0 ≤ t402) = true := decide_eq_true c10
   clear c10
   by_cases c11 : t402 < (y399.length : Int)
   ·rw [if_pos c11] at H
    have c11b0 : decide (t402 < (y399.length : Int)) = true := decide_eq_true c11
    clear c11
    simp only [Option.some.injEq, Prod.mk.injEq] at H
    obtain ⟨rfl, rfl, rfl, rfl, rfl, rfl, rfl⟩ := H
    try go_wp2
    have pi405 : (0 ≤ (t402 : Int)) = True := eq_true (of_decide_eq_true (by first | (with_reducible assumption) | assumption))
    have qi405 : (t402 < (y399.length : Int)) = True := eq_true (of_decide_eq_true (by first | (with_reducible assumption) | assumption))
    have n0_ := MK (bD BK394.out)
    have n1_ := MK (bD BK395.out)
    have n2_ := MK (IsS57.drew HI0.out)
    have n3_ := MK (keep_drew HK.out)
    have n4_ := MK (lD HB.out)
    clear BK394
    clear BK395
    clear HI0
    clear HK
    clear HB
    have BK394 := n0_
    have BK395 := n1_
    have HI0 := n2_
    have HK := n3_
    have HB := n4_
    clear n0_ n1_ n2_ n3_ n4_
    refine start_ (n := 12) (S := fun w' => w'.cell? ⟨gb394, 0, none⟩ = some (.int .i64 a1_0) ∧ w'.cell? ⟨gb394, 1, none⟩ = some (.int .i64 a1_1) ∧ w'.cell? ⟨gb394, 2, none⟩ = some (.int .i64 a1_2) ∧ w'.cell? ⟨gb394, 3, none⟩ = some (.int .i64 a1_3) ∧ w'.cell? ⟨gb394, 4, none⟩ = some (.int .i64 a1_4)) (ds := [11]) #[false, false, false, false, false, false, false, false, false, false, false, false] (by kernel_rfl) rfl rfl ⟨(blk_cell BK394.out 0).trans rfl, (blk_cell BK394.out 1).trans rfl, (blk_cell BK394.out 2).trans rfl, (blk_cell BK394.out 3).trans rfl, (blk_cell BK394.out 4).trans rfl⟩ (fun hHeld => ?_); refine with_tabW spec_l4Cur_oddbrakes.tab4 spec_l4Cur_oddbrakes.bits4 (fun HT_ HW_ => ?_)
    generalize w7.drew = w12 at BK394 BK395 HI0 HK HB hHeld ⊢
    refine pure_ (i := 0) (N := some 15) (v := ?_) (a' := ?_) #[true, false, false, false, false, false, false, false, false, false, false, false] rfl rfl (any_of HT_.out (by kernel_rfl)) (fun _ _ _ h => h) (Or.inl ⟨by rfl, ?_⟩) ?_ ?_
    rotate_left
    ·intro w'; go_simp; with_reducible rfl
    rotate_left
    ·simp only [Act.put, List.setIfInBounds_toArray, List.set_cons_zero, List.set_cons_succ, i64_w, i32_w]; rfl
    refine pure_ (i := 2) (N := some 17) (v := ?_) (a' := ?_) #[true, false, true, false, false, false, false, false, false, false, false, false] rfl rfl (any_of HT_.out (by kernel_rfl)) (fun _ _ _ h => h) (Or.inl ⟨by rfl, ?_⟩) ?_ ?_
    rotate_left
    ·intro w'; go_simp; with_reducible rfl
    rotate_left
    ·simp only [Act.put, List.setIfInBounds_toArray, List.set_cons_zero, List.set_cons_succ, i64_w, i32_w]; rfl
    refine pure_ (i := 6) (N := some 21) (v := ?_) (a' := ?_) #[true, false, true, false, false, false, true, false, false, false, false, false] rfl rfl (any_of HT_.out (by kernel_rfl)) (fun _ _ _ h => h) (Or.inl ⟨by rfl, ?_⟩) ?_ ?_
    rotate_left
    ·intro w'; go_simp; with_reducible rfl
    rotate_left
    ·simp only [Act.put, List.setIfInBounds_toArray, List.set_cons_zero, List.set_cons_succ, i64_w, i32_w]; rfl
    refine take_ (i := 1) (N := some 16) (v := ?_) (a' := ?_) #[true, true, true, false, false, false, true, false, false, false, false, false] rfl rfl (take_ofW HT_.out HW_.out (by kernel_rfl)) (fun _ _ _ h => h) (Or.inl ⟨by rfl, ?_⟩) hHeld ?_ ?_
    rotate_left
    ·rintro w' ⟨s0, s1, s2, s3, s4⟩; go_simp; with_reducible rfl
    rotate_left
    ·simp only [Act.put, List.setIfInBounds_toArray, List.set_cons_zero, List.set_cons_succ, i64_w, i32_w]; rfl
    refine take_ (i := 3) (N := some 18) (v := ?_) (a' := ?_) #[true, true, true, true, false, false, true, false, false, false, false, false] rfl rfl (take_ofW HT_.out HW_.out (by kernel_rfl)) (fun _ _ _ h => h) (Or.inl ⟨by rfl, ?_⟩) hHeld ?_ ?_
    rotate_left
    ·rintro w' ⟨s0, s1, s2, s3, s4⟩; go_simp; with_reducible rfl
    rotate_left
    ·simp only [Act.put, List.setIfInBounds_toArray, List.set_cons_zero, List.set_cons_succ, i64_w, i32_w]; rfl
    refine pure_ (i := 4) (N := some 19) (v := ?_) (a' := ?_) #[true, true, true, true, true, false, true, false, false, false, false, false] rfl rfl (any_of HT_.out (by kernel_rfl)) (fun _ _ _ h => h) (Or.inl ⟨by rfl, ?_⟩) ?_ ?_
    rotate_left
    ·intro w'; go_simp; with_reducible rfl
    rotate_left
    ·simp only [Act.put, List.setIfInBounds_toArray, List.set_cons_zero, List.set_cons_succ, i64_w, i32_w]; rfl
    refine join_ (σ := Value × Addr) 4 #[true, true, true, true, true, true, true, true, false, false, false, false] (fun s_ => [(20, s_.1), (22, .int .i64 t402)]) (fun s_ w' => (w'.cell? ⟨gb394, 0, none⟩ = some (.int .i64 a1_0) ∧ w'.cell? ⟨gb394, 1, none⟩ = some (.int .i64 a1_1) ∧ w'.cell? ⟨gb394, 2, none⟩ = some (.int .i64 a1_2) ∧ w'.cell? ⟨gb394, 3, none⟩ = some (.int .i64 a1_3) ∧ w'.cell? ⟨gb394, 4, none⟩ = some (.int .i64 a1_4)) ∧ (Kd.R (Kd.int .i64) 3 w' w.heap.size (fun _ => True) s_.1 y399) ∧ (∃ c_, (s_.1 : Value) = .slice (some s_.2) y399.length c_) ∧ (w'.heap[gb394]? = some (.cells #[.int .i64 a1_0, .int .i64 a1_1, .int .i64 a1_2, .int .i64 a1_3, .int .i64 a1_4] 24 (0, 0))) ∧ (w'.heap[gb395]? = some (.cells #[.int .i64 0, .int .i64 0, .int .i64 0, .int .i64 0, .int .i64 0] 24 (0, 0))) ∧ (IsS57 w0 w' g s0_0 t403 t404) ∧ (KeepBut w w' g none) ∧ (Below w0.heap.size w0 w')) ?_ ?_
    rotate_left
    ·intro hCont
     refine two_ (i := 5) (j := 7) (Ni := some 20) (Nj := some 22) #[true, true, true, true, true, true, true, false, false, false, false, false] #[true, true, true, true, true, false, true, true, false, false, false, false] rfl rfl rfl rfl (two_of HT_.out (by kernel_rfl)) (by decide) (by decide) (fun K hK => ?_) (fun K hK => ?_)
     ·skip
      refine Kd.R_lit_step (Kd.int .i64) _ 3 ?hg (N := 20) ?hd (xs := ([9, 10, a1_1, wrap64 (a1_1 + 1)] : List Int)) (inner := [.int .i64 9, .int .i64 10, .int .i64 a1_1, .int .i64 (wrap64 (a1_1 + 1))]) (ok := fun _ => True) (okp := fun _ => True) ?hr ?hp (fun _ hk => hk) trivial (Below.refl _ _) (Nat.le_refl _) (by simp) ?_; (case hd => rfl); (case hg => rfl); (case hr => first | (go_simp; done) | (go_simp; rfl)); (case hp => exact (Reps.one (show Kd.M (Kd.int .i64) _ _ _ 9 [.int .i64 9] from rfl) (Reps.one (show Kd.M (Kd.int .i64) _ _ _ 10 [.int .i64 10] from rfl) (Reps.one (show Kd.M (Kd.int .i64) _ _ _ a1_1 [.int .i64 a1_1] from rfl) (Reps.one (show Kd.M (Kd.int .i64) _ _ _ (wrap64 (a1_1 + 1)) [.int .i64 (wrap64 (a1_1 + 1))] from rfl) (Reps.none _ _))))))
      intro v400 w13 ho14 hb hg_ hnew_
      clear hg_ hnew_
      (first | rw [← Ny399.out] at ho14 | (simp only [Int.reduceToNat] at ho14; rw [← Ny399.out] at ho14))
      have n0_ := MK (Kd.R_lower ho14 (keep_size (w := w) (g := g) (row := none) (by repeat (first | (with_reducible first | exact HK.out | apply KeepBut.set_ | apply keep_drewN | apply keep_drew | apply keep_alloc | refine keep_far ?_ GW394.out _ | refine keep_far ?_ GW395.out _) | exact HK.out))))
      have n1_ := MK (IsS57.below (by repeat (first | (with_reducible first | exact HI0.out | apply IsS57.alloc | apply IsS57.drewN | apply IsS57.drew | apply IsS57.set_1 | apply IsS57.set_2 | refine IsS57.far ?_ NB0_394.out _ | refine IsS57.far ?_ NB0_395.out _) | exact HI0.out)) hb)
      have n2_ := MK (blk_below (by (with_reducible repeat (first | refine bN ?_ _ | refine bD ?_ | refine bA ?_ _)); exact BK394.out) hb)
      have n3_ := MK (blk_below (by (with_reducible repeat (first | refine bN ?_ _ | refine bD ?_ | refine bA ?_ _)); exact BK395.out) hb)
      have n4_ := MK (KeepBut.trans (by repeat (first | (with_reducible first | exact HK.out | apply KeepBut.set_ | apply keep_drewN | apply keep_drew | apply keep_alloc | refine keep_far ?_ GW394.out _ | refine keep_far ?_ GW395.out _) | exact HK.out)) (KeepBut.of_below hb g none) (.inl rfl))
      have n5_ := MK (below_step (by repeat (first | (with_reducible first | exact HB.out | apply lA | apply lN | apply lD | refine lS ?_ (IsS57.ge HI0.out) | refine lS ?_ GE394.out | refine lS ?_ GE395.out) | exact HB.out)) hb)
      clear HI0
      clear BK394
      clear BK395
      clear HK
      clear HB
      have HO401 := n0_
      have HI0 := n1_
      have BK394 := n2_
      have BK395 := n3_
      have HK := n4_
      have HB := n5_
      clear n0_ n1_ n2_ n3_ n4_ n5_
      clear hb ho14
      obtain ⟨Ao15, co15, eo15⟩ := Kd.R_slice HO401.out
      subst eo15
      obtain ⟨ado15, fo15, _⟩ := Kd.at_int (Kd.R_reads' HO401.out).2.2 0 (by decide) (by rw [Ny399.out]; simp)
      cases fo15
      refine hK.out _ _ ⟨(blk_cell BK394.out 0).trans rfl, (blk_cell BK394.out 1).trans rfl, (blk_cell BK394.out 2).trans rfl, (blk_cell BK394.out 3).trans rfl, (blk_cell BK394.out 4).trans rfl⟩ (fun hHeld => ?_)
      clear hK K
      refine norm_ (a' := ?_) ?_ ?_
      rotate_left
      ·show Act.put _ (some 20) _ = _; simp only [Act.put, List.setIfInBounds_toArray, List.set_cons_zero, List.set_cons_succ, i64_w, i32_w]; rfl
      refine one_ (i := 7) (N := some 22) #[true, true, true, true, true, true, true, true, false, false, false, false] rfl rfl (one_of HT_.out (by kernel_rfl)) (by decide) (fun K hK => ?_)
      refine goes_ Try.func45 (by kernel_rfl) rfl #[.pointer (some ⟨g, 0, none⟩), .int .i64 4] (by rfl) rfl rfl (by (try simp only [List.map_toArray, List.map_cons, List.map_nil]); first | done | rfl | (simp only [List.length_drop, List.length_take]; rfl)) ?_
      with_reducible refine (spec_l4Cur_pick.calls g s0_0 t397 t398 4 t402 t403 t404 w0 _ ?side1 ?side2 A9.out).mono ?_
      (case side1 => repeat (first | (with_reducible first | exact HI0.out | apply IsS57.alloc | apply IsS57.drewN | apply IsS57.drew | apply IsS57.set_1 | apply IsS57.set_2 | refine IsS57.far ?_ NB0_394.out _ | refine IsS57.far ?_ NB0_395.out _) | exact HI0.out))
      (case side2 => repeat (first | (with_reducible first | exact HB.out | apply lA | apply lN | apply lD | refine lS ?_ (IsS57.ge HI0.out) | refine lS ?_ GE394.out | refine lS ?_ GE395.out) | exact HB.out))
      rintro e w16 ⟨rfl, hi, hb, hk⟩
      refine ⟨_, rfl, ?_⟩
      have n0_ := MK (KeepBut.blk hk (g' := gb394) (o := .cells #[.int .i64 a1_0, .int .i64 a1_1, .int .i64 a1_2, .int .i64 a1_3, .int .i64 a1_4] 24 (0, 0)) (by (with_reducible repeat (first | refine bN ?_ _ | refine bD ?_ | refine bA ?_ _)); exact BK394.out) NB394_0.out (by simp))
      have n1_ := MK (KeepBut.blk hk (g' := gb395) (o := .cells #[.int .i64 0, .int .i64 0, .int .i64 0, .int .i64 0, .int .i64 0] 24 (0, 0)) (by (with_reducible repeat (first | refine bN ?_ _ | refine bD ?_ | refine bA ?_ _)); exact BK395.out) NB395_0.out (by simp))
      have n2_ := MK (Kd.R_mono (Kd.R_keep (IsS57.apart (show IsS57 w0 _ g s0_0 t397 t398 from by repeat (first | (with_reducible first | exact HI0.out | apply IsS57.alloc | apply IsS57.drewN | apply IsS57.drew | apply IsS57.set_1 | apply IsS57.set_2 | refine IsS57.far ?_ NB0_394.out _ | refine IsS57.far ?_ NB0_395.out _) | exact HI0.out)) (by (with_reducible repeat (first | apply Kd.R_alloc | apply Kd.R_drewN | apply Kd.R_drew)); exact HO401.out) (by decide)) hk (fun _ h => h.2)) (fun _ h => h.1))
      have n3_ := MK (KeepBut.trans (by repeat (first | (with_reducible first | exact HK.out | apply KeepBut.set_ | apply keep_drewN | apply keep_drew | apply keep_alloc | refine keep_far ?_ GW394.out _ | refine keep_far ?_ GW395.out _) | exact HK.out)) hk (.inl rfl))
      have n4_ := MK (hb)
      have n5_ := MK (hi)
      clear BK394
      clear BK395
      clear HO401
      clear HK
      clear HB
      clear HI0
      have BK394 := n0_
      have BK395 := n1_
      have HO401 := n2_
      have HK := n3_
      have HB := n4_
      have HI0 := n5_
      clear n0_ n1_ n2_ n3_ n4_ n5_
      (try clear hb)
      (try clear hb2)
      (try clear hk)
      (try clear hi)
      refine hK.out _ _ ⟨(blk_cell BK394.out 0).trans rfl, (blk_cell BK394.out 1).trans rfl, (blk_cell BK394.out 2).trans rfl, (blk_cell BK394.out 3).trans rfl, (blk_cell BK394.out 4).trans rfl⟩ (fun hHeld => ?_)
      clear hK K
      refine norm_ (a' := ?_) ?_ ?_
      rotate_left
      ·show Act.put _ (some 22) _ = _; simp only [Act.put, List.setIfInBounds_toArray, List.set_cons_zero, List.set_cons_succ, i64_w, i32_w]; rfl
      exact norm_ (by simp only [putAll, Act.put, List.setIfInBounds_toArray, List.set_cons_zero, List.set_cons_succ]) (hCont (.slice (some ado15) y399.length co15, ado15) _ ⟨hHeld, (by (with_reducible repeat (first | apply Kd.R_alloc | apply Kd.R_drewN | apply Kd.R_drew)); exact HO401.out), ⟨_, rfl⟩, (by (with_reducible repeat (first | refine bN ?_ _ | refine bD ?_ | refine bA ?_ _)); exact BK394.out), (by (with_reducible repeat (first | refine bN ?_ _ | refine bD ?_ | refine bA ?_ _)); exact BK395.out), (by repeat (first | (with_reducible first | exact HI0.out | apply IsS57.alloc | apply IsS57.drewN | apply IsS57.drew | apply IsS57.set_1 | apply IsS57.set_2 | refine IsS57.far ?_ NB0_394.out _ | refine IsS57.far ?_ NB0_395.out _) | exact HI0.out)), (by repeat (first | (with_reducible first | exact HK.out | apply KeepBut.set_ | apply keep_drewN | apply keep_drew | apply keep_alloc | refine keep_far ?_ GW394.out _ | refine keep_far ?_ GW395.out _) | exact HK.out)), (by repeat (first | (with_reducible first | exact HB.out | apply lA | apply lN | apply lD | refine lS ?_ (IsS57.ge HI0.out) | refine lS ?_ GE394.out | refine lS ?_ GE395.out) | exact HB.out))⟩)
     ·skip
      refine goes_ Try.func45 (by kernel_rfl) rfl #[.pointer (some ⟨g, 0, none⟩), .int .i64 4] (by rfl) rfl rfl (by (try simp only [List.map_toArray, List.map_cons, List.map_nil]); first | done | rfl | (simp only [List.length_drop, List.length_take]; rfl)) ?_
      with_reducible refine (spec_l4Cur_pick.calls g s0_0 t397 t398 4 t402 t403 t404 w0 _ ?side1 ?side2 A9.out).mono ?_
      (case side1 => repeat (first | (with_reducible first | exact HI0.out | apply IsS57.alloc | apply IsS57.drewN | apply IsS57.drew | apply IsS57.set_1 | apply IsS57.set_2 | refine IsS57.far ?_ NB0_394.out _ | refine IsS57.far ?_ NB0_395.out _) | exact HI0.out))
      (case side2 => repeat (first | (with_reducible first | exact HB.out | apply lA | apply lN | apply lD | refine lS ?_ (IsS57.ge HI0.out) | refine lS ?_ GE394.out | refine lS ?_ GE395.out) | exact HB.out))
      rintro e w13 ⟨rfl, hi, hb, hk⟩
      refine ⟨_, rfl, ?_⟩
      have n0_ := MK (KeepBut.blk hk (g' := gb394) (o := .cells #[.int .i64 a1_0, .int .i64 a1_1, .int .i64 a1_2, .int .i64 a1_3, .int .i64 a1_4] 24 (0, 0)) (by (with_reducible repeat (first | refine bN ?_ _ | refine bD ?_ | refine bA ?_ _)); exact BK394.out) NB394_0.out (by simp))
      have n1_ := MK (KeepBut.blk hk (g' := gb395) (o := .cells #[.int .i64 0, .int .i64 0, .int .i64 0, .int .i64 0, .int .i64 0] 24 (0, 0)) (by (with_reducible repeat (first | refine bN ?_ _ | refine bD ?_ | refine bA ?_ _)); exact BK395.out) NB395_0.out (by simp))
      have n2_ := MK (KeepBut.trans (by repeat (first | (with_reducible first | exact HK.out | apply KeepBut.set_ | apply keep_drewN | apply keep_drew | apply keep_alloc | refine keep_far ?_ GW394.out _ | refine keep_far ?_ GW395.out _) | exact HK.out)) hk (.inl rfl))
      have n3_ := MK (hb)
      have n4_ := MK (hi)
      clear BK394
      clear BK395
      clear HK
      clear HB
      clear HI0
      have BK394 := n0_
      have BK395 := n1_
      have HK := n2_
      have HB := n3_
      have HI0 := n4_
      clear n0_ n1_ n2_ n3_ n4_
      (try clear hb)
      (try clear hb2)
      (try clear hk)
      (try clear hi)
      refine hK.out _ _ ⟨(blk_cell BK394.out 0).trans rfl, (blk_cell BK394.out 1).trans rfl, (blk_cell BK394.out 2).trans rfl, (blk_cell BK394.out 3).trans rfl, (blk_cell BK394.out 4).trans rfl⟩ (fun hHeld => ?_)
      clear hK K
      refine norm_ (a' := ?_) ?_ ?_
      rotate_left
      ·show Act.put _ (some 22) _ = _; simp only [Act.put, List.setIfInBounds_toArray, List.set_cons_zero, List.set_cons_succ, i64_w, i32_w]; rfl
      refine one_ (i := 5) (N := some 20) #[true, true, true, true, true, true, true, true, false, false, false, false] rfl rfl (one_of HT_.out (by kernel_rfl)) (by decide) (fun K hK => ?_)
      refine Kd.R_lit_step (Kd.int .i64) _ 3 ?hg (N := 20) ?hd (xs := ([9, 10, a1_1, wrap64 (a1_1 + 1)] : List Int)) (inner := [.int .i64 9, .int .i64 10, .int .i64 a1_1, .int .i64 (wrap64 (a1_1 + 1))]) (ok := fun _ => True) (okp := fun _ => True) ?hr ?hp (fun _ hk => hk) trivial (Below.refl _ _) (Nat.le_refl _) (by simp) ?_; (case hd => rfl); (case hg => rfl); (case hr => first | (go_simp; done) | (go_simp; rfl)); (case hp => exact (Reps.one (show Kd.M (Kd.int .i64) _ _ _ 9 [.int .i64 9] from rfl) (Reps.one (show Kd.M (Kd.int .i64) _ _ _ 10 [.int .i64 10] from rfl) (Reps.one (show Kd.M (Kd.int .i64) _ _ _ a1_1 [.int .i64 a1_1] from rfl) (Reps.one (show Kd.M (Kd.int .i64) _ _ _ (wrap64 (a1_1 + 1)) [.int .i64 (wrap64 (a1_1 + 1))] from rfl) (Reps.none _ _))))))
      intro v400 w14 ho15 hb hg_ hnew_
      clear hg_ hnew_
      (first | rw [← Ny399.out] at ho15 | (simp only [Int.reduceToNat] at ho15; rw [← Ny399.out] at ho15))
      have n0_ := MK (Kd.R_lower ho15 (keep_size (w := w) (g := g) (row := none) (by repeat (first | (with_reducible first | exact HK.out | apply KeepBut.set_ | apply keep_drewN | apply keep_drew | apply keep_alloc | refine keep_far ?_ GW394.out _ | refine keep_far ?_ GW395.out _) | exact HK.out))))
      have n1_ := MK (IsS57.below (by repeat (first | (with_reducible first | exact HI0.out | apply IsS57.alloc | apply IsS57.drewN | apply IsS57.drew | apply IsS57.set_1 | apply IsS57.set_2 | refine IsS57.far ?_ NB0_394.out _ | refine IsS57.far ?_ NB0_395.out _) | exact HI0.out)) hb)
      have n2_ := MK (blk_below (by (with_reducible repeat (first | refine bN ?_ _ | refine bD ?_ | refine bA ?_ _)); exact BK394.out) hb)
      have n3_ := MK (blk_below (by (with_reducible repeat (first | refine bN ?_ _ | refine bD ?_ | refine bA ?_ _)); exact BK395.out) hb)
      have n4_ := MK (KeepBut.trans (by repeat (first | (with_reducible first | exact HK.out | apply KeepBut.set_ | apply keep_drewN | apply keep_drew | apply keep_alloc | refine keep_far ?_ GW394.out _ | refine keep_far ?_ GW395.out _) | exact HK.out)) (KeepBut.of_below hb g none) (.inl rfl))
      have n5_ := MK (below_step (by repeat (first | (with_reducible first | exact HB.out | apply lA | apply lN | apply lD | refine lS ?_ (IsS57.ge HI0.out) | refine lS ?_ GE394.out | refine lS ?_ GE395.out) | exact HB.out)) hb)
      clear HI0
      clear BK394
      clear BK395
      clear HK
      clear HB
      have HO401 := n0_
      have HI0 := n1_
      have BK394 := n2_
      have BK395 := n3_
      have HK := n4_
      have HB := n5_
      clear n0_ n1_ n2_ n3_ n4_ n5_
      clear hb ho15
      obtain ⟨Ao16, co16, eo16⟩ := Kd.R_slice HO401.out
      subst eo16
      obtain ⟨ado16, fo16, _⟩ := Kd.at_int (Kd.R_reads' HO401.out).2.2 0 (by decide) (by rw [Ny399.out]; simp)
      cases fo16
      refine hK.out _ _ ⟨(blk_cell BK394.out 0).trans rfl, (blk_cell BK394.out 1).trans rfl, (blk_cell BK394.out 2).trans rfl, (blk_cell BK394.out 3).trans rfl, (blk_cell BK394.out 4).trans rfl⟩ (fun hHeld => ?_)
      clear hK K
      refine norm_ (a' := ?_) ?_ ?_
      rotate_left
      ·show Act.put _ (some 20) _ = _; simp only [Act.put, List.setIfInBounds_toArray, List.set_cons_zero, List.set_cons_succ, i64_w, i32_w]; rfl
      exact norm_ (by simp only [putAll, Act.put, List.setIfInBounds_toArray, List.set_cons_zero, List.set_cons_succ]) (hCont (.slice (some ado16) y399.length co16, ado16) _ ⟨hHeld, (by (with_reducible repeat (first | apply Kd.R_alloc | apply Kd.R_drewN | apply Kd.R_drew)); exact HO401.out), ⟨_, rfl⟩, (by (with_reducible repeat (first | refine bN ?_ _ | refine bD ?_ | refine bA ?_ _)); exact BK394.out), (by (with_reducible repeat (first | refine bN ?_ _ | refine bD ?_ | refine bA ?_ _)); exact BK395.out), (by repeat (first | (with_reducible first | exact HI0.out | apply IsS57.alloc | apply IsS57.drewN | apply IsS57.drew | apply IsS57.set_1 | apply IsS57.set_2 | refine IsS57.far ?_ NB0_394.out _ | refine IsS57.far ?_ NB0_395.out _) | exact HI0.out)), (by repeat (first | (with_reducible first | exact HK.out | apply KeepBut.set_ | apply keep_drewN | apply keep_drew | apply keep_alloc | refine keep_far ?_ GW394.out _ | refine keep_far ?_ GW395.out _) | exact HK.out)), (by repeat (first | (with_reducible first | exact HB.out | apply lA | apply lN | apply lD | refine lS ?_ (IsS57.ge HI0.out) | refine lS ?_ GE394.out | refine lS ?_ GE395.out) | exact HB.out))⟩)
    rintro ⟨v400, adz_v400⟩ w17 ⟨hS_, h0_, h1_, h2_, h3_, h4_, h5_, h6_⟩
    have n0_ : Aside0 (Kd.R (Kd.int .i64) 3 w17 w.heap.size (fun _ => True) v400 y399) := ⟨h0_⟩
    have n1_ : Aside0 (∃ c_, (v400 : Value) = .slice (some adz_v400) y399.length c_) := ⟨h1_⟩
    have n2_ : Aside0 (w17.heap[gb394]? = some (.cells #[.int .i64 a1_0, .int .i64 a1_1, .int .i64 a1_2, .int .i64 a1_3, .int .i64 a1_4] 24 (0, 0))) := ⟨h2_⟩
    have n3_ : Aside0 (w17.heap[gb395]? = some (.cells #[.int .i64 0, .int .i64 0, .int .i64 0, .int .i64 0, .int .i64 0] 24 (0, 0))) := ⟨h3_⟩
    have n4_ : Aside0 (IsS57 w0 w17 g s0_0 t403 t404) := ⟨h4_⟩
    have n5_ : Aside0 (KeepBut w w17 g none) := ⟨h5_⟩
    have n6_ : Aside0 (Below w0.heap.size w0 w17) := ⟨h6_⟩
    clear BK394
    clear BK395
    clear HI0
    clear HK
    clear HB
    clear h0_ h1_ h2_ h3_ h4_ h5_ h6_
    have HO401 := n0_
    have HA_HO401 := n1_
    have BK394 := n2_
    have BK395 := n3_
    have HI0 := n4_
    have HK := n5_
    have HB := n6_
    clear n0_ n1_ n2_ n3_ n4_ n5_ n6_
    have hHeld : w17.cell? ⟨gb394, 0, none⟩ = some (.int .i64 a1_0) ∧ w17.cell? ⟨gb394, 1, none⟩ = some (.int .i64 a1_1) ∧ w17.cell? ⟨gb394, 2, none⟩ = some (.int .i64 a1_2) ∧ w17.cell? ⟨gb394, 3, none⟩ = some (.int .i64 a1_3) ∧ w17.cell? ⟨gb394, 4, none⟩ = some (.int .i64 a1_4) := hS_
    obtain ⟨co18, eo18⟩ := HA_HO401.out
    clear HA_HO401
    subst eo18
    refine norm_ (a' := ?_) ?_ ?_
    rotate_left
    ·simp only [putAll, Act.put, List.setIfInBounds_toArray, List.set_cons_zero, List.set_cons_succ]
     rfl
    refine pure_ (i := 8) (N := some 23) (v := ?_) (a' := ?_) #[true, true, true, true, true, true, true, true, true, false, false, false] rfl rfl (any_of HT_.out (by kernel_rfl)) (fun _ _ _ h => h) (Or.inl ⟨by rfl, ?_⟩) ?_ ?_
    rotate_left
    ·intro w'; go_simp; with_reducible rfl
    rotate_left
    ·simp only [Act.put, List.setIfInBounds_toArray, List.set_cons_zero, List.set_cons_succ, i64_w, i32_w]; rfl
    refine one_ (i := 9) (N := some 24) #[true, true, true, true, true, true, true, true, true, true, false, false] rfl rfl (one_of HT_.out (by kernel_rfl)) (by decide) (fun K hK => ?_)
    (have p405 : 0 ≤ (t402 : Int) := of_decide_eq_true (by first | (with_reducible assumption) | assumption); have q405 : t402 < (y399.length : Int) := of_decide_eq_true (by first | (with_reducible assumption) | assumption); obtain ⟨ad405, e405, hx405_0⟩ := Kd.at_int (Kd.R_reads' HO401.out).2.2 t402 p405 q405; obtain rfl : adz_v400 = ad405 := (by injection e405))
    refine value_ (w1 := ?_) (v := ?_) (by rfl) rfl ?_ ?_
    rotate_left 2
    ·go_simp
     constructor
     ·rfl
     ·rfl
    clear hx405_0
    refine hK.out _ _ ⟨(blk_cell BK394.out 0).trans rfl, (blk_cell BK394.out 1).trans rfl, (blk_cell BK394.out 2).trans rfl, (blk_cell BK394.out 3).trans rfl, (blk_cell BK394.out 4).trans rfl⟩ (fun hHeld => ?_)
    clear hK K
    refine norm_ (a' := ?_) ?_ ?_
    rotate_left
    ·show Act.put _ (some 24) _ = _; simp only [Act.put, List.setIfInBounds_toArray, List.set_cons_zero, List.set_cons_succ, i64_w, i32_w]; rfl
    refine pure_ (i := 10) (N := some 25) (v := ?_) (a' := ?_) #[true, true, true, true, true, true, true, true, true, true, true, false] rfl rfl (any_of HT_.out (by kernel_rfl)) (fun _ _ _ h => h) (Or.inl ⟨by rfl, ?_⟩) ?_ ?_
    rotate_left
    ·intro w'; go_simp; with_reducible rfl
    rotate_left
    ·simp only [Act.put, List.setIfInBounds_toArray, List.set_cons_zero, List.set_cons_succ, i64_w, i32_w]; rfl
    refine last_ (i := 11) (N := none) #[true, true, true, true, true, true, true, true, true, true, true, true] rfl rfl (one_of HT_.out (by kernel_rfl)) (by decide) (fun K hK => ?_)
    have hs19 : w17.cell? ⟨gb394, 0, none⟩ = some (.int .i64 a1_0) := (blk_cell BK394.out 0).trans rfl
    have hfs19 := blk_frozen BK394.out 0
    have hns19_1 := NB395_394.out
    have hms19_1 := NB394_395.out
    refine skip_ (w1 := ?_) (by rfl) rfl ?_ ?_
    rotate_left
    ·go_simp
     rfl
    refine hK.out _ _ ?_
    clear hK K
    refine done_ (done_of HT_.out (by kernel_rfl)) ?_
    have hnb20 := NB394_395.out
    have hnc20 := NB395_394.out
    have hnb21 := NB394_0.out
    have hnc21 := NB0_394.out
    obtain ⟨hcz22_0, hcz22_1, hcz22_2, hcz22_3, hcz22_4⟩ := bc5 BK394.out
    obtain ⟨hfz22_0, hfz22_1, hfz22_2, hfz22_3, hfz22_4⟩ := bf5 BK394.out
    have hnb23 := NB395_0.out
    have hnc23 := NB0_395.out
    obtain ⟨hcz24_0, hcz24_1, hcz24_2, hcz24_3, hcz24_4⟩ := bc5 BK395.out
    obtain ⟨hfz24_0, hfz24_1, hfz24_2, hfz24_3, hfz24_4⟩ := bf5 BK395.out
    try go_wp2
    refine bodyPost_ret (results_cell_row rfl _ _ gb395 24 #[.int .i64 (rd y399 t402), .int .i64 a1_1, .int .i64 a1_2, .int .i64 a1_3, .int .i64 a1_4] (0, 0) _ rfl (by (with_reducible repeat (first | refine bN ?_ _ | refine bD ?_ | refine bA ?_ _)); refine blk_put (cs := #[.int .i64 (rd y399 t402), .int .i64 a1_1, .int .i64 a1_2, .int .i64 a1_3, .int .i64 0]) ?_ 4 _ rfl; (with_reducible repeat (first | refine bN ?_ _ | refine bD ?_ | refine bA ?_ _)); refine blk_put (cs := #[.int .i64 (rd y399 t402), .int .i64 a1_1, .int .i64 a1_2, .int .i64 0, .int .i64 0]) ?_ 3 _ rfl; (with_reducible repeat (first | refine bN ?_ _ | refine bD ?_ | refine bA ?_ _)); refine blk_put (cs := #[.int .i64 (rd y399 t402), .int .i64 a1_1, .int .i64 0, .int .i64 0, .int .i64 0]) ?_ 2 _ rfl; (with_reducible repeat (first | refine bN ?_ _ | refine bD ?_ | refine bA ?_ _)); refine blk_put (cs := #[.int .i64 (rd y399 t402), .int .i64 0, .int .i64 0, .int .i64 0, .int .i64 0]) ?_ 1 _ rfl; (with_reducible repeat (first | refine bN ?_ _ | refine bD ?_ | refine bA ?_ _)); refine blk_put (cs := #[.int .i64 0, .int .i64 0, .int .i64 0, .int .i64 0, .int .i64 0]) ?_ 0 _ rfl; (with_reducible repeat (first | refine bN ?_ _ | refine bD ?_ | refine bA ?_ _)); refine blk_far ?_ NB395_394.out _; (with_reducible repeat (first | refine bN ?_ _ | refine bD ?_ | refine bA ?_ _)); exact BK395.out) Try.underlying24 rfl (by kernel_rfl)) rfl ?_
    exact ⟨by first | rfl | (simp [errW_none, errW_some] <;> rfl) | (simp [*, errW_none, errW_some] <;> rfl), by repeat (first | (with_reducible first | exact HI0.out | apply IsS57.alloc | apply IsS57.drewN | apply IsS57.drew | apply IsS57.set_1 | apply IsS57.set_2 | refine IsS57.far ?_ NB0_394.out _ | refine IsS57.far ?_ NB0_395.out _) | exact HI0.out), by repeat (first | (with_reducible first | exact HB.out | apply lA | apply lN | apply lD | refine lS ?_ (IsS57.ge HI0.out) | refine lS ?_ GE394.out | refine lS ?_ GE395.out) | exact HB.out), by repeat (first | (with_reducible first | exact HK.out | apply KeepBut.set_ | apply keep_drewN | apply keep_drew | apply keep_alloc | refine keep_far ?_ GW394.out _ | refine keep_far ?_ GW395.out _) | exact HK.out)⟩
   ·rw [if_neg c11] at H
    exact absurd H (by simp)
  ·rw [if_neg c10] at H
   exact absurd H (by simp)
 ·rw [if_neg c8] at H
  have c8b0 : (t396 == 0) = false := beq_eq_false_iff_ne.mpr c8
  have c8b1 : (t396 != 0) = true := bne_iff_ne.mpr c8
  (first | rw [c8b0] | (simp only [i64_w, i32_w]; rw [c8b0]) | rw [c8b1] | skip)
  by_cases c25 : t396 = 1
  ·rw [if_pos c25] at H
   have c25b0 : (t396 == 1) = true := beq_iff_eq.mpr c25
   have c25b1 : (t396 != 1) = false := bne_eq_false_iff_eq.mpr c25
   clear c25
   obtain ⟨y406, hy406⟩ : ∃ y_ : List Int, y_ = (([1000, 1001, wrap64 (a1_0 - 1)] : List Int)) := ⟨_, rfl⟩
   replace H : ((spec_l4Cur_pick.f s0_0 t397 t398 3).bind fun bt409 => (if 0 ≤ bt409.1 then (if bt409.1 < (y406.length : Int) then (some (a1_0, rd y406 bt409.1, a1_2, a1_3, a1_4, bt409.2.1, bt409.2.2)) else (none)) else (none))) = some (r1, r2, r3, r4, r5, r6, r7) := by first | (rw [hy406]; with_reducible exact H) | (have H2_ := (Option.bind_some _ _).symm.trans H; rw [hy406]; with_reducible exact H2_) | (have H2_ := (Option.bind_some _ _).symm.trans H; with_reducible exact H2_) | with_reducible exact H | (rw [hy406]; exact H) | exact H
   have Ny406 := MK hy406
   clear hy406
   replace H := Option.bind_eq_some_iff.mp H
   obtain ⟨⟨t409, t410, t411⟩, A260, H⟩ := H
   replace H : (if 0 ≤ t409 then (if t409 < (y406.length : Int) then (some (a1_0, rd y406 t409, a1_2, a1_3, a1_4, t410, t411)) else (none)) else (none)) = some (r1, r2, r3, r4, r5, r6, r7) := H
   have A26 := MK A260
   clear A260
   by_cases c27 : 0 ≤ t409
   ·rw [if_pos c27] at H
    have c27b0 : decide (0 ≤ t409) = true := decide_eq_true c27
    clear c27
    by_cases c28 : t409 < (y406.length : Int)
    ·rw [if_pos c28] at H
     have c28b0 : decide (t409 < (y406.length : Int)) = true := decide_eq_true c28
     clear c28
     simp only [Option.some.injEq, Prod.mk.injEq] at H
     obtain ⟨rfl, rfl, rfl, rfl, rfl, rfl, rfl⟩ := H
     try go_wp2
     have pi412 : (0 ≤ (t409 : Int)) = True := eq_true (of_decide_eq_true (by first | (with_reducible assumption) | assumption))
     have qi412 : (t409 < (y406.length : Int)) = True := eq_true (of_decide_eq_true (by first | (with_reducible assumption) | assumption))
     have n0_ := MK (bD BK394.out)
     have n1_ := MK (bD BK395.out)
     have n2_ := MK (IsS57.drew HI0.out)
     have n3_ := MK (keep_drew HK.out)
     have n4_ := MK (lD HB.out)
     clear BK394
     clear BK395
     clear HI0
     clear HK
     clear HB
     have BK394 := n0_
     have BK395 := n1_
     have HI0 := n2_
     have HK := n3_
     have HB := n4_
     clear n0_ n1_ n2_ n3_ n4_
     refine start_ (n := 10) (S := fun w' => w'.cell? ⟨gb394, 0, none⟩ = some (.int .i64 a1_0) ∧ w'.cell? ⟨gb394, 1, none⟩ = some (.int .i64 a1_1) ∧ w'.cell? ⟨gb394, 2, none⟩ = some (.int .i64 a1_2) ∧ w'.cell? ⟨gb394, 3, none⟩ = some (.int .i64 a1_3) ∧ w'.cell? ⟨gb394, 4, none⟩ = some (.int .i64 a1_4)) (ds := [9]) #[false, false, false, false, false, false, false, false, false, false] (by kernel_rfl) rfl rfl ⟨(blk_cell BK394.out 0).trans rfl, (blk_cell BK394.out 1).trans rfl, (blk_cell BK394.out 2).trans rfl, (blk_cell BK394.out 3).trans rfl, (blk_cell BK394.out 4).trans rfl⟩ (fun hHeld => ?_); refine with_tabW spec_l4Cur_oddbrakes.tab6 spec_l4Cur_oddbrakes.bits6 (fun HT_ HW_ => ?_)
     generalize w7.drew = w29 at BK394 BK395 HI0 HK HB hHeld ⊢
     refine pure_ (i := 0) (N := some 28) (v := ?_) (a' := ?_) #[true, false, false, false, false, false, false, false, false, false] rfl rfl (any_of HT_.out (by kernel_rfl)) (fun _ _ _ h => h) (Or.inl ⟨by rfl, ?_⟩) ?_ ?_
     rotate_left
     ·intro w'; go_simp; with_reducible rfl
     rotate_left
     ·simp only [Act.put, List.setIfInBounds_toArray, List.set_cons_zero, List.set_cons_succ, i64_w, i32_w]; rfl
     refine pure_ (i := 4) (N := some 32) (v := ?_) (a' := ?_) #[true, false, false, false, true, false, false, false, false, false] rfl rfl (any_of HT_.out (by kernel_rfl)) (fun _ _ _ h => h) (Or.inl ⟨by rfl, ?_⟩) ?_ ?_
     rotate_left
     ·intro w'; go_simp; with_reducible rfl
     rotate_left
     ·simp only [Act.put, List.setIfInBounds_toArray, List.set_cons_zero, List.set_cons_succ, i64_w, i32_w]; rfl
     refine take_ (i := 1) (N := some 29) (v := ?_) (a' := ?_) #[true, true, false, false, true, false, false, false, false, false] rfl rfl (take_ofW HT_.out HW_.out (by kernel_rfl)) (fun _ _ _ h => h) (Or.inl ⟨by rfl, ?_⟩) hHeld ?_ ?_
     rotate_left
     ·rintro w' ⟨s0, s1, s2, s3, s4⟩; go_simp; with_reducible rfl
     rotate_left
     ·simp only [Act.put, List.setIfInBounds_toArray, List.set_cons_zero, List.set_cons_succ, i64_w, i32_w]; rfl
     refine pure_ (i := 2) (N := some 30) (v := ?_) (a' := ?_) #[true, true, true, false, true, false, false, false, false, false] rfl rfl (any_of HT_.out (by kernel_rfl)) (fun _ _ _ h => h) (Or.inl ⟨by rfl, ?_⟩) ?_ ?_
     rotate_left
     ·intro w'; go_simp; with_reducible rfl
     rotate_left
     ·simp only [Act.put, List.setIfInBounds_toArray, List.set_cons_zero, List.set_cons_succ, i64_w, i32_w]; rfl
     refine join_ (σ := Value × Addr) 4 #[true, true, true, true, true, true, false, false, false, false] (fun s_ => [(31, s_.1), (33, .int .i64 t409)]) (fun s_ w' => (w'.cell? ⟨gb394, 0, none⟩ = some (.int .i64 a1_0) ∧ w'.cell? ⟨gb394, 1, none⟩ = some (.int .i64 a1_1) ∧ w'.cell? ⟨gb394, 2, none⟩ = some (.int .i64 a1_2) ∧ w'.cell? ⟨gb394, 3, none⟩ = some (.int .i64 a1_3) ∧ w'.cell? ⟨gb394, 4, none⟩ = some (.int .i64 a1_4)) ∧ (Kd.R (Kd.int .i64) 3 w' w.heap.size (fun _ => True) s_.1 y406) ∧ (∃ c_, (s_.1 : Value) = .slice (some s_.2) y406.length c_) ∧ (w'.heap[gb394]? = some (.cells #[.int .i64 a1_0, .int .i64 a1_1, .int .i64 a1_2, .int .i64 a1_3, .int .i64 a1_4] 24 (0, 0))) ∧ (w'.heap[gb395]? = some (.cells #[.int .i64 0, .int .i64 0, .int .i64 0, .int .i64 0, .int .i64 0] 24 (0, 0))) ∧ (IsS57 w0 w' g s0_0 t410 t411) ∧ (KeepBut w w' g none) ∧ (Below w0.heap.size w0 w')) ?_ ?_
     rotate_left
     ·intro hCont
      refine two_ (i := 3) (j := 5) (Ni := some 31) (Nj := some 33) #[true, true, true, true, true, false, false, false, false, false] #[true, true, true, false, true, true, false, false, false, false] rfl rfl rfl rfl (two_of HT_.out (by kernel_rfl)) (by decide) (by decide) (fun K hK => ?_) (fun K hK => ?_)
      ·skip
       refine Kd.R_lit_step (Kd.int .i64) _ 3 ?hg (N := 31) ?hd (xs := ([1000, 1001, wrap64 (a1_0 - 1)] : List Int)) (inner := [.int .i64 1000, .int .i64 1001, .int .i64 (wrap64 (a1_0 - 1))]) (ok := fun _ => True) (okp := fun _ => True) ?hr ?hp (fun _ hk => hk) trivial (Below.refl _ _) (Nat.le_refl _) (by simp) ?_; (case hd => rfl); (case hg => rfl); (case hr => first | (go_simp; done) | (go_simp; rfl)); (case hp => exact (Reps.one (show Kd.M (Kd.int .i64) _ _ _ 1000 [.int .i64 1000] from rfl) (Reps.one (show Kd.M (Kd.int .i64) _ _ _ 1001 [.int .i64 1001] from rfl) (Reps.one (show Kd.M (Kd.int .i64) _ _ _ (wrap64 (a1_0 - 1)) [.int .i64 (wrap64 (a1_0 - 1))] from rfl) (Reps.none _ _)))))
       intro v407 w30 ho31 hb hg_ hnew_
       clear hg_ hnew_
       (first | rw [← Ny406.out] at ho31 | (simp only [Int.reduceToNat] at ho31; rw [← Ny406.out] at ho31))
       have n0_ := MK (Kd.R_lower ho31 (keep_size (w := w) (g := g) (row := none) (by repeat (first | (with_reducible first | exact HK.out | apply KeepBut.set_ | apply keep_drewN | apply keep_drew | apply keep_alloc | refine keep_far ?_ GW394.out _ | refine keep_far ?_ GW395.out _) | exact HK.out))))
       have n1_ := MK (IsS57.below (by repeat (first | (with_reducible first | exact HI0.out | apply IsS57.alloc | apply IsS57.drewN | apply IsS57.drew | apply IsS57.set_1 | apply IsS57.set_2 | refine IsS57.far ?_ NB0_394.out _ | refine IsS57.far ?_ NB0_395.out _) | exact HI0.out)) hb)
       have n2_ := MK (blk_below (by (with_reducible repeat (first | refine bN ?_ _ | refine bD ?_ | refine bA ?_ _)); exact BK394.out) hb)
       have n3_ := MK (blk_below (by (with_reducible repeat (first | refine bN ?_ _ | refine bD ?_ | refine bA ?_ _)); exact BK395.out) hb)
       have n4_ := MK (KeepBut.trans (by repeat (first | (with_reducible first | exact HK.out | apply KeepBut.set_ | apply keep_drewN | apply keep_drew | apply keep_alloc | refine keep_far ?_ GW394.out _ | refine keep_far ?_ GW395.out _) | exact HK.out)) (KeepBut.of_below hb g none) (.inl rfl))
       have n5_ := MK (below_step (by repeat (first | (with_reducible first | exact HB.out | apply lA | apply lN | apply lD | refine lS ?_ (IsS57.ge HI0.out) | refine lS ?_ GE394.out | refine lS ?_ GE395.out) | exact HB.out)) hb)
       clear HI0
       clear BK394
       clear BK395
       clear HK
       clear HB
       have HO408 := n0_
       have HI0 := n1_
       have BK394 := n2_
       have BK395 := n3_
       have HK := n4_
       have HB := n5_
       clear n0_ n1_ n2_ n3_ n4_ n5_
       clear hb ho31
       obtain ⟨Ao32, co32, eo32⟩ := Kd.R_slice HO408.out
       subst eo32
       obtain ⟨ado32, fo32, _⟩ := Kd.at_int (Kd.R_reads' HO408.out).2.2 0 (by decide) (by rw [Ny406.out]; simp)
       cases fo32
       refine hK.out _ _ ⟨(blk_cell BK394.out 0).trans rfl, (blk_cell BK394.out 1).trans rfl, (blk_cell BK394.out 2).trans rfl, (blk_cell BK394.out 3).trans rfl, (blk_cell BK394.out 4).trans rfl⟩ (fun hHeld => ?_)
       clear hK K
       refine norm_ (a' := ?_) ?_ ?_
       rotate_left
       ·show Act.put _ (some 31) _ = _; simp only [Act.put, List.setIfInBounds_toArray, List.set_cons_zero, List.set_cons_succ, i64_w, i32_w]; rfl
       refine one_ (i := 5) (N := some 33) #[true, true, true, true, true, true, false, false, false, false] rfl rfl (one_of HT_.out (by kernel_rfl)) (by decide) (fun K hK => ?_)
       refine goes_ Try.func45 (by kernel_rfl) rfl #[.pointer (some ⟨g, 0, none⟩), .int .i64 3] (by rfl) rfl rfl (by (try simp only [List.map_toArray, List.map_cons, List.map_nil]); first | done | rfl | (simp only [List.length_drop, List.length_take]; rfl)) ?_
       with_reducible refine (spec_l4Cur_pick.calls g s0_0 t397 t398 3 t409 t410 t411 w0 _ ?side1 ?side2 A26.out).mono ?_
       (case side1 => repeat (first | (with_reducible first | exact HI0.out | apply IsS57.alloc | apply IsS57.drewN | apply IsS57.drew | apply IsS57.set_1 | apply IsS57.set_2 | refine IsS57.far ?_ NB0_394.out _ | refine IsS57.far ?_ NB0_395.out _) | exact HI0.out))
       (case side2 => repeat (first | (with_reducible first | exact HB.out | apply lA | apply lN | apply lD | refine lS ?_ (IsS57.ge HI0.out) | refine lS ?_ GE394.out | refine lS ?_ GE395.out) | exact HB.out))
       rintro e w33 ⟨rfl, hi, hb, hk⟩
       refine ⟨_, rfl, ?_⟩
       have n0_ := MK (KeepBut.blk hk (g' := gb394) (o := .cells #[.int .i64 a1_0, .int .i64 a1_1, .int .i64 a1_2, .int .i64 a1_3, .int .i64 a1_4] 24 (0, 0)) (by (with_reducible repeat (first | refine bN ?_ _ | refine bD ?_ | refine bA ?_ _)); exact BK394.out) NB394_0.out (by simp))
       have n1_ := MK (KeepBut.blk hk (g' := gb395) (o := .cells #[.int .i64 0, .int .i64 0, .int .i64 0, .int .i64 0, .int .i64 0] 24 (0, 0)) (by (with_reducible repeat (first | refine bN ?_ _ | refine bD ?_ | refine bA ?_ _)); exact BK395.out) NB395_0.out (by simp))
       have n2_ := MK (Kd.R_mono (Kd.R_keep (IsS57.apart (show IsS57 w0 _ g s0_0 t397 t398 from by repeat (first | (with_reducible first | exact HI0.out | apply IsS57.alloc | apply IsS57.drewN | apply IsS57.drew | apply IsS57.set_1 | apply IsS57.set_2 | refine IsS57.far ?_ NB0_394.out _ | refine IsS57.far ?_ NB0_395.out _) | exact HI0.out)) (by (with_reducible repeat (first | apply Kd.R_alloc | apply Kd.R_drewN | apply Kd.R_drew)); exact HO408.out) (by decide)) hk (fun _ h => h.2)) (fun _ h => h.1))
       have n3_ := MK (KeepBut.trans (by repeat (first | (with_reducible first | exact HK.out | apply KeepBut.set_ | apply keep_drewN | apply keep_drew | apply keep_alloc | refine keep_far ?_ GW394.out _ | refine keep_far ?_ GW395.out _) | exact HK.out)) hk (.inl rfl))
       have n4_ := MK (hb)
       have n5_ := MK (hi)
       clear BK394
       clear BK395
       clear HO408
       clear HK
       clear HB
       clear HI0
       have BK394 := n0_
       have BK395 := n1_
       have HO408 := n2_
       have HK := n3_
       have HB := n4_
       have HI0 := n5_
       clear n0_ n1_ n2_ n3_ n4_ n5_
       (try clear hb)
       (try clear hb2)
       (try clear hk)
       (try clear hi)
       refine hK.out _ _ ⟨(blk_cell BK394.out 0).trans rfl, (blk_cell BK394.out 1).trans rfl, (blk_cell BK394.out 2).trans rfl, (blk_cell BK394.out 3).trans rfl, (blk_cell BK394.out 4).trans rfl⟩ (fun hHeld => ?_)
       clear hK K
       refine norm_ (a' := ?_) ?_ ?_
       rotate_left
       ·show Act.put _ (some 33) _ = _; simp only [Act.put, List.setIfInBounds_toArray, List.set_cons_zero, List.set_cons_succ, i64_w, i32_w]; rfl
       exact norm_ (by simp only [putAll, Act.put, List.setIfInBounds_toArray, List.set_cons_zero, List.set_cons_succ]) (hCont (.slice (some ado32) y406.length co32, ado32) _ ⟨hHeld, (by (with_reducible repeat (first | apply Kd.R_alloc | apply Kd.R_drewN | apply Kd.R_drew)); exact HO408.out), ⟨_, rfl⟩, (by (with_reducible repeat (first | refine bN ?_ _ | refine bD ?_ | refine bA ?_ _)); exact BK394.out), (by (with_reducible repeat (first | refine bN ?_ _ | refine bD ?_ | refine bA ?_ _)); exact BK395.out), (by repeat (first | (with_reducible first | exact HI0.out | apply IsS57.alloc | apply IsS57.drewN | apply IsS57.drew | apply IsS57.set_1 | apply IsS57.set_2 | refine IsS57.far ?_ NB0_394.out _ | refine IsS57.far ?_ NB0_395.out _) | exact HI0.out)), (by repeat (first | (with_reducible first | exact HK.out | apply KeepBut.set_ | apply keep_drewN | apply keep_drew | apply keep_alloc | refine keep_far ?_ GW394.out _ | refine keep_far ?_ GW395.out _) | exact HK.out)), (by repeat (first | (with_reducible first | exact HB.out | apply lA | apply lN | apply lD | refine lS ?_ (IsS57.ge HI0.out) | refine lS ?_ GE394.out | refine lS ?_ GE395.out) | exact HB.out))⟩)
      ·skip
       refine goes_ Try.func45 (by kernel_rfl) rfl #[.pointer (some ⟨g, 0, none⟩), .int .i64 3] (by rfl) rfl rfl (by (try simp only [List.map_toArray, List.map_cons, List.map_nil]); first | done | rfl | (simp only [List.length_drop, List.length_take]; rfl)) ?_
       with_reducible refine (spec_l4Cur_pick.calls g s0_0 t397 t398 3 t409 t410 t411 w0 _ ?side1 ?side2 A26.out).mono ?_
       (case side1 => repeat (first | (with_reducible first | exact HI0.out | apply IsS57.alloc | apply IsS57.drewN | apply IsS57.drew | apply IsS57.set_1 | apply IsS57.set_2 | refine IsS57.far ?_ NB0_394.out _ | refine IsS57.far ?_ NB0_395.out _) | exact HI0.out))
       (case side2 => repeat (first | (with_reducible first | exact HB.out | apply lA | apply lN | apply lD | refine lS ?_ (IsS57.ge HI0.out) | refine lS ?_ GE394.out | refine lS ?_ GE395.out) | exact HB.out))
       rintro e w30 ⟨rfl, hi, hb, hk⟩
       refine ⟨_, rfl, ?_⟩
       have n0_ := MK (KeepBut.blk hk (g' := gb394) (o := .cells #[.int .i64 a1_0, .int .i64 a1_1, .int .i64 a1_2, .int .i64 a1_3, .int .i64 a1_4] 24 (0, 0)) (by (with_reducible repeat (first | refine bN ?_ _ | refine bD ?_ | refine bA ?_ _)); exact BK394.out) NB394_0.out (by simp))
       have n1_ := MK (KeepBut.blk hk (g' := gb395) (o := .cells #[.int .i64 0, .int .i64 0, .int .i64 0, .int .i64 0, .int .i64 0] 24 (0, 0)) (by (with_reducible repeat (first | refine bN ?_ _ | refine bD ?_ | refine bA ?_ _)); exact BK395.out) NB395_0.out (by simp))
       have n2_ := MK (KeepBut.trans (by repeat (first | (with_reducible first | exact HK.out | apply KeepBut.set_ | apply keep_drewN | apply keep_drew | apply keep_alloc | refine keep_far ?_ GW394.out _ | refine keep_far ?_ GW395.out _) | exact HK.out)) hk (.inl rfl))
       have n3_ := MK (hb)
       have n4_ := MK (hi)
       clear BK394
       clear BK395
       clear HK
       clear HB
       clear HI0
       have BK394 := n0_
       have BK395 := n1_
       have HK := n2_
       have HB := n3_
       have HI0 := n4_
       clear n0_ n1_ n2_ n3_ n4_
       (try clear hb)
       (try clear hb2)
       (try clear hk)
       (try clear hi)
       refine hK.out _ _ ⟨(blk_cell BK394.out 0).trans rfl, (blk_cell BK394.out 1).trans rfl, (blk_cell BK394.out 2).trans rfl, (blk_cell BK394.out 3).trans rfl, (blk_cell BK394.out 4).trans rfl⟩ (fun hHeld => ?_)
       clear hK K
       refine norm_ (a' := ?_) ?_ ?_
       rotate_left
       ·show Act.put _ (some 33) _ = _; simp only [Act.put, List.setIfInBounds_toArray, List.set_cons_zero, List.set_cons_succ, i64_w, i32_w]; rfl
       refine one_ (i := 3) (N := some 31) #[true, true, true, true, true, true, false, false, false, false] rfl rfl (one_of HT_.out (by kernel_rfl)) (by decide) (fun K hK => ?_)
       refine Kd.R_lit_step (Kd.int .i64) _ 3 ?hg (N := 31) ?hd (xs := ([1000, 1001, wrap64 (a1_0 - 1)] : List Int)) (inner := [.int .i64 1000, .int .i64 1001, .int .i64 (wrap64 (a1_0 - 1))]) (ok := fun _ => True) (okp := fun _ => True) ?hr ?hp (fun _ hk => hk) trivial (Below.refl _ _) (Nat.le_refl _) (by simp) ?_; (case hd => rfl); (case hg => rfl); (case hr => first | (go_simp; done) | (go_simp; rfl)); (case hp => exact (Reps.one (show Kd.M (Kd.int .i64) _ _ _ 1000 [.int .i64 1000] from rfl) (Reps.one (show Kd.M (Kd.int .i64) _ _ _ 1001 [.int .i64 1001] from rfl) (Reps.one (show Kd.M (Kd.int .i64) _ _ _ (wrap64 (a1_0 - 1)) [.int .i64 (wrap64 (a1_0 - 1))] from rfl) (Reps.none _ _)))))
       intro v407 w31 ho32 hb hg_ hnew_
       clear hg_ hnew_
       (first | rw [← Ny406.out] at ho32 | (simp only [Int.reduceToNat] at ho32; rw [← Ny406.out] at ho32))
       have n0_ := MK (Kd.R_lower ho32 (keep_size (w := w) (g := g) (row := none) (by repeat (first | (with_reducible first | exact HK.out | apply KeepBut.set_ | apply keep_drewN | apply keep_drew | apply keep_alloc | refine keep_far ?_ GW394.out _ | refine keep_far ?_ GW395.out _) | exact HK.out))))
       have n1_ := MK (IsS57.below (by repeat (first | (with_reducible first | exact HI0.out | apply IsS57.alloc | apply IsS57.drewN | apply IsS57.drew | apply IsS57.set_1 | apply IsS57.set_2 | refine IsS57.far ?_ NB0_394.out _ | refine IsS57.far ?_ NB0_395.out _) | exact HI0.out)) hb)
       have n2_ := MK (blk_below (by (with_reducible repeat (first | refine bN ?_ _ | refine bD ?_ | refine bA ?_ _)); exact BK394.out) hb)
       have n3_ := MK (blk_below (by (with_reducible repeat (first | refine bN ?_ _ | refine bD ?_ | refine bA ?_ _)); exact BK395.out) hb)
       have n4_ := MK (KeepBut.trans (by repeat (first | (with_reducible first | exact HK.out | apply KeepBut.set_ | apply keep_drewN | apply keep_drew | apply keep_alloc | refine keep_far ?_ GW394.out _ | refine keep_far ?_ GW395.out _) | exact HK.out)) (KeepBut.of_below hb g none) (.inl rfl))
       have n5_ := MK (below_step (by repeat (first | (with_reducible first | exact HB.out | apply lA | apply lN | apply lD | refine lS ?_ (IsS57.ge HI0.out) | refine lS ?_ GE394.out | refine lS ?_ GE395.out) | exact HB.out)) hb)
       clear HI0
       clear BK394
       clear BK395
       clear HK
       clear HB
       have HO408 := n0_
       have HI0 := n1_
       have BK394 := n2_
       have BK395 := n3_
       have HK := n4_
       have HB := n5_
       clear n0_ n1_ n2_ n3_ n4_ n5_
       clear hb ho32
       obtain ⟨Ao33, co33, eo33⟩ := Kd.R_slice HO408.out
       subst eo33
       obtain ⟨ado33, fo33, _⟩ := Kd.at_int (Kd.R_reads' HO408.out).2.2 0 (by decide) (by rw [Ny406.out]; simp)
       cases fo33
       refine hK.out _ _ ⟨(blk_cell BK394.out 0).trans rfl, (blk_cell BK394.out 1).trans rfl, (blk_cell BK394.out 2).trans rfl, (blk_cell BK394.out 3).trans rfl, (blk_cell BK394.out 4).trans rfl⟩ (fun hHeld => ?_)
       clear hK K
       refine norm_ (a' := ?_) ?_ ?_
       rotate_left
       ·show Act.put _ (some 31) _ = _; simp only [Act.put, List.setIfInBounds_toArray, List.set_cons_zero, List.set_cons_succ, i64_w, i32_w]; rfl
       exact norm_ (by simp only [putAll, Act.put, List.setIfInBounds_toArray, List.set_cons_zero, List.set_cons_succ]) (hCont (.slice (some ado33) y406.length co33, ado33) _ ⟨hHeld, (by (with_reducible repeat (first | apply Kd.R_alloc | apply Kd.R_drewN | apply Kd.R_drew)); exact HO408.out), ⟨_, rfl⟩, (by (with_reducible repeat (first | refine bN ?_ _ | refine bD ?_ | refine bA ?_ _)); exact BK394.out), (by (with_reducible repeat (first | refine bN ?_ _ | refine bD ?_ | refine bA ?_ _)); exact BK395.out), (by repeat (first | (with_reducible first | exact HI0.out | apply IsS57.alloc | apply IsS57.drewN | apply IsS57.drew | apply IsS57.set_1 | apply IsS57.set_2 | refine IsS57.far ?_ NB0_394.out _ | refine IsS57.far ?_ NB0_395.out _) | exact HI0.out)), (by repeat (first | (with_reducible first | exact HK.out | apply KeepBut.set_ | apply keep_drewN | apply keep_drew | apply keep_alloc | refine keep_far ?_ GW394.out _ | refine keep_far ?_ GW395.out _) | exact HK.out)), (by repeat (first | (with_reducible first | exact HB.out | apply lA | apply lN | apply lD | refine lS ?_ (IsS57.ge HI0.out) | refine lS ?_ GE394.out | refine lS ?_ GE395.out) | exact HB.out))⟩)
     rintro ⟨v407, adz_v407⟩ w34 ⟨hS_, h0_, h1_, h2_, h3_, h4_, h5_, h6_⟩
     have n0_ : Aside0 (Kd.R (Kd.int .i64) 3 w34 w.heap.size (fun _ => True) v407 y406) := ⟨h0_⟩
     have n1_ : Aside0 (∃ c_, (v407 : Value) = .slice (some adz_v407) y406.length c_) := ⟨h1_⟩
     have n2_ : Aside0 (w34.heap[gb394]? = some (.cells #[.int .i64 a1_0, .int .i64 a1_1, .int .i64 a1_2, .int .i64 a1_3, .int .i64 a1_4] 24 (0, 0))) := ⟨h2_⟩
     have n3_ : Aside0 (w34.heap[gb395]? = some (.cells #[.int .i64 0, .int .i64 0, .int .i64 0, .int .i64 0, .int .i64 0] 24 (0, 0))) := ⟨h3_⟩
     have n4_ : Aside0 (IsS57 w0 w34 g s0_0 t410 t411) := ⟨h4_⟩
     have n5_ : Aside0 (KeepBut w w34 g none) := ⟨h5_⟩
     have n6_ : Aside0 (Below w0.heap.size w0 w34) := ⟨h6_⟩
     clear BK394
     clear BK395
     clear HI0
     clear HK
     clear HB
     clear h0_ h1_ h2_ h3_ h4_ h5_ h6_
     have HO408 := n0_
     have HA_HO408 := n1_
     have BK394 := n2_
     have BK395 := n3_
     have HI0 := n4_
     have HK := n5_
     have HB := n6_
     clear n0_ n1_ n2_ n3_ n4_ n5_ n6_
     have hHeld : w34.cell? ⟨gb394, 0, none⟩ = some (.int .i64 a1_0) ∧ w34.cell? ⟨gb394, 1, none⟩ = some (.int .i64 a1_1) ∧ w34.cell? ⟨gb394, 2, none⟩ = some (.int .i64 a1_2) ∧ w34.cell? ⟨gb394, 3, none⟩ = some (.int .i64 a1_3) ∧ w34.cell? ⟨gb394, 4, none⟩ = some (.int .i64 a1_4) := hS_
     obtain ⟨co35, eo35⟩ := HA_HO408.out
     clear HA_HO408
     subst eo35
     refine norm_ (a' := ?_) ?_ ?_
     rotate_left
     ·simp only [putAll, Act.put, List.setIfInBounds_toArray, List.set_cons_zero, List.set_cons_succ]
      rfl
     refine pure_ (i := 6) (N := some 34) (v := ?_) (a' := ?_) #[true, true, true, true, true, true, true, false, false, false] rfl rfl (any_of HT_.out (by kernel_rfl)) (fun _ _ _ h => h) (Or.inl ⟨by rfl, ?_⟩) ?_ ?_
     rotate_left
     ·intro w'; go_simp; with_reducible rfl
     rotate_left
     ·simp only [Act.put, List.setIfInBounds_toArray, List.set_cons_zero, List.set_cons_succ, i64_w, i32_w]; rfl
     refine one_ (i := 7) (N := some 35) #[true, true, true, true, true, true, true, true, false, false] rfl rfl (one_of HT_.out (by kernel_rfl)) (by decide) (fun K hK => ?_)
     (have p412 : 0 ≤ (t409 : Int) := of_decide_eq_true (by first | (with_reducible assumption) | assumption); have q412 : t409 < (y406.length : Int) := of_decide_eq_true (by first | (with_reducible assumption) | assumption); obtain ⟨ad412, e412, hx412_0⟩ := Kd.at_int (Kd.R_reads' HO408.out).2.2 t409 p412 q412; obtain rfl : adz_v407 = ad412 := (by injection e412))
     refine value_ (w1 := ?_) (v := ?_) (by rfl) rfl ?_ ?_
     rotate_left 2
     ·go_simp
      constructor
      ·rfl
      ·rfl
     clear hx412_0
     refine hK.out _ _ ⟨(blk_cell BK394.out 0).trans rfl, (blk_cell BK394.out 1).trans rfl, (blk_cell BK394.out 2).trans rfl, (blk_cell BK394.out 3).trans rfl, (blk_cell BK394.out 4).trans rfl⟩ (fun hHeld => ?_)
     clear hK K
     refine norm_ (a' := ?_) ?_ ?_
     rotate_left
     ·show Act.put _ (some 35) _ = _; simp only [Act.put, List.setIfInBounds_toArray, List.set_cons_zero, List.set_cons_succ, i64_w, i32_w]; rfl
     refine pure_ (i := 8) (N := some 36) (v := ?_) (a' := ?_) #[true, true, true, true, true, true, true, true, true, false] rfl rfl (any_of HT_.out (by kernel_rfl)) (fun _ _ _ h => h) (Or.inl ⟨by rfl, ?_⟩) ?_ ?_
     rotate_left
     ·intro w'; go_simp; with_reducible rfl
     rotate_left
     ·simp only [Act.put, List.setIfInBounds_toArray, List.set_cons_zero, List.set_cons_succ, i64_w, i32_w]; rfl
     refine last_ (i := 9) (N := none) #[true, true, true, true, true, true, true, true, true, true] rfl rfl (one_of HT_.out (by kernel_rfl)) (by decide) (fun K hK => ?_)
     have hs36 : w34.cell? ⟨gb394, 1, none⟩ = some (.int .i64 a1_1) := (blk_cell BK394.out 1).trans rfl
     have hfs36 := blk_frozen BK394.out 1
     have hns36_1 := NB395_394.out
     have hms36_1 := NB394_395.out
     refine skip_ (w1 := ?_) (by rfl) rfl ?_ ?_
     rotate_left
     ·go_simp
      rfl
     refine hK.out _ _ ?_
     clear hK K
     refine done_ (done_of HT_.out (by kernel_rfl)) ?_
     have hnb37 := NB394_395.out
     have hnc37 := NB395_394.out
     have hnb38 := NB394_0.out
     have hnc38 := NB0_394.out
     obtain ⟨hcz39_0, hcz39_1, hcz39_2, hcz39_3, hcz39_4⟩ := bc5 BK394.out
     obtain ⟨hfz39_0, hfz39_1, hfz39_2, hfz39_3, hfz39_4⟩ := bf5 BK394.out
     have hnb40 := NB395_0.out
     have hnc40 := NB0_395.out
     obtain ⟨hcz41_0, hcz41_1, hcz41_2, hcz41_3, hcz41_4⟩ := bc5 BK395.out
     obtain ⟨hfz41_0, hfz41_1, hfz41_2, hfz41_3, hfz41_4⟩ := bf5 BK395.out
     try go_wp2
     refine bodyPost_ret (results_cell_row rfl _ _ gb395 24 #[.int .i64 a1_0, .int .i64 (rd y406 t409), .int .i64 a1_2, .int .i64 a1_3, .int .i64 a1_4] (0, 0) _ rfl (by (with_reducible repeat (first | refine bN ?_ _ | refine bD ?_ | refine bA ?_ _)); refine blk_put (cs := #[.int .i64 a1_0, .int .i64 (rd y406 t409), .int .i64 a1_2, .int .i64 a1_3, .int .i64 0]) ?_ 4 _ rfl; (with_reducible repeat (first | refine bN ?_ _ | refine bD ?_ | refine bA ?_ _)); refine blk_put (cs := #[.int .i64 a1_0, .int .i64 (rd y406 t409), .int .i64 a1_2, .int .i64 0, .int .i64 0]) ?_ 3 _ rfl; (with_reducible repeat (first | refine bN ?_ _ | refine bD ?_ | refine bA ?_ _)); refine blk_put (cs := #[.int .i64 a1_0, .int .i64 (rd y406 t409), .int .i64 0, .int .i64 0, .int .i64 0]) ?_ 2 _ rfl; (with_reducible repeat (first | refine bN ?_ _ | refine bD ?_ | refine bA ?_ _)); refine blk_put (cs := #[.int .i64 a1_0, .int .i64 0, .int .i64 0, .int .i64 0, .int .i64 0]) ?_ 1 _ rfl; (with_reducible repeat (first | refine bN ?_ _ | refine bD ?_ | refine bA ?_ _)); refine blk_put (cs := #[.int .i64 0, .int .i64 0, .int .i64 0, .int .i64 0, .int .i64 0]) ?_ 0 _ rfl; (with_reducible repeat (first | refine bN ?_ _ | refine bD ?_ | refine bA ?_ _)); refine blk_far ?_ NB395_394.out _; (with_reducible repeat (first | refine bN ?_ _ | refine bD ?_ | refine bA ?_ _)); exact BK395.out) Try.underlying24 rfl (by kernel_rfl)) rfl ?_
     exact ⟨by first | rfl | (simp [errW_none, errW_some] <;> rfl) | (simp [*, errW_none, errW_some] <;> rfl), by repeat (first | (with_reducible first | exact HI0.out | apply IsS57.alloc | apply IsS57.drewN | apply IsS57.drew | apply IsS57.set_1 | apply IsS57.set_2 | refine IsS57.far ?_ NB0_394.out _ | refine IsS57.far ?_ NB0_395.out _) | exact HI0.out), by repeat (first | (with_reducible first | exact HB.out | apply lA | apply lN | apply lD | refine lS ?_ (IsS57.ge HI0.out) | refine lS ?_ GE394.out | refine lS ?_ GE395.out) | exact HB.out), by repeat (first | (with_reducible first | exact HK.out | apply KeepBut.set_ | apply keep_drewN | apply keep_drew | apply keep_alloc | refine keep_far ?_ GW394.out _ | refine keep_far ?_ GW395.out _) | exact HK.out)⟩
    ·rw [if_neg c28] at H
     exact absurd H (by simp)
   ·rw [if_neg c27] at H
    exact absurd H (by simp)
  ·rw [if_neg c25] at H
   have c25b0 : (t396 == 1) = false := beq_eq_false_iff_ne.mpr c25
   have c25b1 : (t396 != 1) = true := bne_iff_ne.mpr c25
   by_cases c42 : t396 = 2
   ·rw [if_pos c42] at H
    have c42b0 : (t396 == 2) = true := beq_iff_eq.mpr c42
    have c42b1 : (t396 != 2) = false := bne_eq_false_iff_eq.mpr c42
    clear c42
    obtain ⟨y413, hy413⟩ : ∃ y_ : List Int, y_ = (([(-1), 20, 21] : List Int)) := ⟨_, rfl⟩
    replace H : ((spec_l4Cur_pick.f s0_0 t397 t398 3).bind fun bt416 => (if 0 ≤ bt416.1 then (if bt416.1 < (y413.length : Int) then (some (a1_0, a1_1, rd y413 bt416.1, a1_3, a1_4, bt416.2.1, bt416.2.2)) else (none)) else (none))) = some (r1, r2, r3, r4, r5, r6, r7) := by first | (rw [hy413]; with_reducible exact H) | (have H2_ := (Option.bind_some _ _).symm.trans H; rw [hy413]; with_reducible exact H2_) | (have H2_ := (Option.bind_some _ _).symm.trans H; with_reducible exact H2_) | with_reducible exact H | (rw [hy413]; exact H) | exact H
    have Ny413 := MK hy413
    clear hy413
    replace H := Option.bind_eq_some_iff.mp H
    obtain ⟨⟨t416, t417, t418⟩, A430, H⟩ := H
    replace H : (if 0 ≤ t416 then (if t416 < (y413.length : Int) then (some (a1_0, a1_1, rd y413 t416, a1_3, a1_4, t417, t418)) else (none)) else (none)) = some (r1, r2, r3, r4, r5, r6, r7) := H
    have A43 := MK A430
    clear A430
    by_cases c44 : 0 ≤ t416
    ·rw [if_pos c44] at H
     have c44b0 : decide (0 ≤ t416) = true := decide_eq_true c44
     clear c44
     by_cases c45 : t416 < (y413.length : Int)
     ·rw [if_pos c45] at H
      have c45b0 : decide (t416 < (y413.length : Int)) = true := decide_eq_true c45
      clear c45
      simp only [Option.some.injEq, Prod.mk.injEq] at H
      obtain ⟨rfl, rfl, rfl, rfl, rfl, rfl, rfl⟩ := H
      go_wp2_with (first | ((with_reducible refine gate_dst (N := 39) rfl ?_); refine Kd.R_lit (Kd.int .i64) _ 3 ?hg (N := 39) ?hd (xs := ([(-1), 20, 21] : List Int)) (inner := [.int .i64 (-1), .int .i64 20, .int .i64 21]) (ok := fun _ => True) (okp := fun _ => True) ?hr ?hp (fun _ hk => hk) trivial (Below.refl _ _) (Nat.le_refl _) (by simp) ?_; (case hd => rfl); (case hg => rfl); (case hr => first | (go_simp; done) | (go_simp; rfl)); (case hp => exact (Reps.one (show Kd.M (Kd.int .i64) _ _ _ (-1) [.int .i64 (-1)] from rfl) (Reps.one (show Kd.M (Kd.int .i64) _ _ _ 20 [.int .i64 20] from rfl) (Reps.one (show Kd.M (Kd.int .i64) _ _ _ 21 [.int .i64 21] from rfl) (Reps.none _ _))))); intro v414 w46 ho47 hb hg_ hnew_; clear hg_ hnew_; (first | rw [← Ny413.out] at ho47 | (simp only [Int.reduceToNat] at ho47; rw [← Ny413.out] at ho47)); have n0_ := MK (Kd.R_lower ho47 (keep_size (w := w) (g := g) (row := none) (by repeat (first | (with_reducible first | exact HK.out | apply KeepBut.set_ | apply keep_drewN | apply keep_drew | apply keep_alloc | refine keep_far ?_ GW394.out _ | refine keep_far ?_ GW395.out _) | exact HK.out)))); have n1_ := MK (IsS57.below (by repeat (first | (with_reducible first | exact HI0.out | apply IsS57.alloc | apply IsS57.drewN | apply IsS57.drew | apply IsS57.set_1 | apply IsS57.set_2 | refine IsS57.far ?_ NB0_394.out _ | refine IsS57.far ?_ NB0_395.out _) | exact HI0.out)) hb); have n2_ := MK (blk_below (by (with_reducible repeat (first | refine bN ?_ _ | refine bD ?_ | refine bA ?_ _)); exact BK394.out) hb); have n3_ := MK (blk_below (by (with_reducible repeat (first | refine bN ?_ _ | refine bD ?_ | refine bA ?_ _)); exact BK395.out) hb); have n4_ := MK (KeepBut.trans (by repeat (first | (with_reducible first | exact HK.out | apply KeepBut.set_ | apply keep_drewN | apply keep_drew | apply keep_alloc | refine keep_far ?_ GW394.out _ | refine keep_far ?_ GW395.out _) | exact HK.out)) (KeepBut.of_below hb g none) (.inl rfl)); have n5_ := MK (below_step (by repeat (first | (with_reducible first | exact HB.out | apply lA | apply lN | apply lD | refine lS ?_ (IsS57.ge HI0.out) | refine lS ?_ GE394.out | refine lS ?_ GE395.out) | exact HB.out)) hb); clear HI0; clear BK394; clear BK395; clear HK; clear HB; have HO415 := n0_; have HI0 := n1_; have BK394 := n2_; have BK395 := n3_; have HK := n4_; have HB := n5_; clear n0_ n1_ n2_ n3_ n4_ n5_; clear hb ho47) | ((with_reducible refine gate_callee (f := 45) rfl ?_); refine goesL_ (some 41) rfl rfl Try.func45 (by kernel_rfl) rfl #[.pointer (some ⟨g, 0, none⟩), .int .i64 3] rfl (by (try simp only [List.map_toArray, List.map_cons, List.map_nil]); first | done | rfl | (simp only [List.length_drop, List.length_take]; rfl)) ?_; (with_reducible refine (spec_l4Cur_pick.calls g s0_0 t397 t398 3 t416 t417 t418 w0 _ ?side1 ?side2 A43.out).mono ?_); (case side1 => repeat (first | (with_reducible first | exact HI0.out | apply IsS57.alloc | apply IsS57.drewN | apply IsS57.drew | apply IsS57.set_1 | apply IsS57.set_2 | refine IsS57.far ?_ NB0_394.out _ | refine IsS57.far ?_ NB0_395.out _) | exact HI0.out)); (case side2 => repeat (first | (with_reducible first | exact HB.out | apply lA | apply lN | apply lD | refine lS ?_ (IsS57.ge HI0.out) | refine lS ?_ GE394.out | refine lS ?_ GE395.out) | exact HB.out)); rintro e w48 ⟨rfl, hi, hb, hk⟩; refine ⟨_, rfl, ?_⟩; have n0_ := MK (KeepBut.blk hk (g' := gb394) (o := .cells #[.int .i64 a1_0, .int .i64 a1_1, .int .i64 a1_2, .int .i64 a1_3, .int .i64 a1_4] 24 (0, 0)) (by (with_reducible repeat (first | refine bN ?_ _ | refine bD ?_ | refine bA ?_ _)); exact BK394.out) NB394_0.out (by simp)); have n1_ := MK (KeepBut.blk hk (g' := gb395) (o := .cells #[.int .i64 0, .int .i64 0, .int .i64 0, .int .i64 0, .int .i64 0] 24 (0, 0)) (by (with_reducible repeat (first | refine bN ?_ _ | refine bD ?_ | refine bA ?_ _)); exact BK395.out) NB395_0.out (by simp)); have n2_ := MK (Kd.R_mono (Kd.R_keep (IsS57.apart (show IsS57 w0 _ g s0_0 t397 t398 from by repeat (first | (with_reducible first | exact HI0.out | apply IsS57.alloc | apply IsS57.drewN | apply IsS57.drew | apply IsS57.set_1 | apply IsS57.set_2 | refine IsS57.far ?_ NB0_394.out _ | refine IsS57.far ?_ NB0_395.out _) | exact HI0.out)) (by (with_reducible repeat (first | apply Kd.R_alloc | apply Kd.R_drewN | apply Kd.R_drew)); exact HO415.out) (by decide)) hk (fun _ h => h.2)) (fun _ h => h.1)); have n3_ := MK (KeepBut.trans (by repeat (first | (with_reducible first | exact HK.out | apply KeepBut.set_ | apply keep_drewN | apply keep_drew | apply keep_alloc | refine keep_far ?_ GW394.out _ | refine keep_far ?_ GW395.out _) | exact HK.out)) hk (.inl rfl)); have n4_ := MK (hb); have n5_ := MK (hi); clear BK394; clear BK395; clear HO415; clear HK; clear HB; clear HI0; have BK394 := n0_; have BK395 := n1_; have HO415 := n2_; have HK := n3_; have HB := n4_; have HI0 := n5_; clear n0_ n1_ n2_ n3_ n4_ n5_; (try clear hb); (try clear hb2); (try clear hk); (try clear hi); obtain ⟨Ao49, co49, eo49⟩ := Kd.R_slice HO415.out; subst eo49; have p419 : 0 ≤ (t416 : Int) := of_decide_eq_true (by first | (with_reducible assumption) | assumption); have q419 : t416 < (y413.length : Int) := of_decide_eq_true (by first | (with_reducible assumption) | assumption); obtain ⟨ad419, e419, hx419_0⟩ := Kd.at_int (Kd.R_reads' HO415.out).2.2 t416 p419 q419; cases e419; replace p419 := eq_true p419; replace q419 := eq_true q419; have hnb50 := NB394_395.out; have hnc50 := NB395_394.out; have hnb51 := NB394_0.out; have hnc51 := NB0_394.out; obtain ⟨hcz52_0, hcz52_1, hcz52_2, hcz52_3, hcz52_4⟩ := bc5 BK394.out; obtain ⟨hfz52_0, hfz52_1, hfz52_2, hfz52_3, hfz52_4⟩ := bf5 BK394.out; have hnb53 := NB395_0.out; have hnc53 := NB0_395.out; obtain ⟨hcz54_0, hcz54_1, hcz54_2, hcz54_3, hcz54_4⟩ := bc5 BK395.out; obtain ⟨hfz54_0, hfz54_1, hfz54_2, hfz54_3, hfz54_4⟩ := bf5 BK395.out))
      refine bodyPost_ret (results_cell_row rfl _ _ gb395 24 #[.int .i64 a1_0, .int .i64 a1_1, .int .i64 (rd y413 t416), .int .i64 a1_3, .int .i64 a1_4] (0, 0) _ rfl (by (with_reducible repeat (first | refine bN ?_ _ | refine bD ?_ | refine bA ?_ _)); refine blk_put (cs := #[.int .i64 a1_0, .int .i64 a1_1, .int .i64 (rd y413 t416), .int .i64 a1_3, .int .i64 0]) ?_ 4 _ rfl; (with_reducible repeat (first | refine bN ?_ _ | refine bD ?_ | refine bA ?_ _)); refine blk_put (cs := #[.int .i64 a1_0, .int .i64 a1_1, .int .i64 (rd y413 t416), .int .i64 0, .int .i64 0]) ?_ 3 _ rfl; (with_reducible repeat (first | refine bN ?_ _ | refine bD ?_ | refine bA ?_ _)); refine blk_put (cs := #[.int .i64 a1_0, .int .i64 a1_1, .int .i64 0, .int .i64 0, .int .i64 0]) ?_ 2 _ rfl; (with_reducible repeat (first | refine bN ?_ _ | refine bD ?_ | refine bA ?_ _)); refine blk_put (cs := #[.int .i64 a1_0, .int .i64 0, .int .i64 0, .int .i64 0, .int .i64 0]) ?_ 1 _ rfl; (with_reducible repeat (first | refine bN ?_ _ | refine bD ?_ | refine bA ?_ _)); refine blk_put (cs := #[.int .i64 0, .int .i64 0, .int .i64 0, .int .i64 0, .int .i64 0]) ?_ 0 _ rfl; (with_reducible repeat (first | refine bN ?_ _ | refine bD ?_ | refine bA ?_ _)); refine blk_far ?_ NB395_394.out _; (with_reducible repeat (first | refine bN ?_ _ | refine bD ?_ | refine bA ?_ _)); exact BK395.out) Try.underlying24 rfl (by kernel_rfl)) rfl ?_
      exact ⟨by first | rfl | (simp [errW_none, errW_some] <;> rfl) | (simp [*, errW_none, errW_some] <;> rfl), by repeat (first | (with_reducible first | exact HI0.out | apply IsS57.alloc | apply IsS57.drewN | apply IsS57.drew | apply IsS57.set_1 | apply IsS57.set_2 | refine IsS57.far ?_ NB0_394.out _ | refine IsS57.far ?_ NB0_395.out _) | exact HI0.out), by repeat (first | (with_reducible first | exact HB.out | apply lA | apply lN | apply lD | refine lS ?_ (IsS57.ge HI0.out) | refine lS ?_ GE394.out | refine lS ?_ GE395.out) | exact HB.out), by repeat (first | (with_reducible first | exact HK.out | apply KeepBut.set_ | apply keep_drewN | apply keep_drew | apply keep_alloc | refine keep_far ?_ GW394.out _ | refine keep_far ?_ GW395.out _) | exact HK.out)⟩
     ·rw [if_neg c45] at H
      exact absurd H (by simp)
    ·rw [if_neg c44] at H
     exact absurd H (by simp)
   ·rw [if_neg c42] at H
    have c42b0 : (t396 == 2) = false := beq_eq_false_iff_ne.mpr c42
    have c42b1 : (t396 != 2) = true := bne_iff_ne.mpr c42
    by_cases c55 : t396 = 3
    ·rw [if_pos c55] at H
     have c55b0 : (t396 == 3) = true := beq_iff_eq.mpr c55
     have c55b1 : (t396 != 3) = false := bne_eq_false_iff_eq.mpr c55
     clear c55
     obtain ⟨y420, hy420⟩ : ∃ y_ : List Int, y_ = (([(-1), 100, 101] : List Int)) := ⟨_, rfl⟩
     replace H : ((spec_l4Cur_pick.f s0_0 t397 t398 3).bind fun bt423 => (if 0 ≤ bt423.1 then (if bt423.1 < (y420.length : Int) then (some (a1_0, a1_1, a1_2, rd y420 bt423.1, a1_4, bt423.2.1, bt423.2.2)) else (none)) else (none))) = some (r1, r2, r3, r4, r5, r6, r7) := by first | (rw [hy420]; with_reducible exact H) | (have H2_ := (Option.bind_some _ _).symm.trans H; rw [hy420]; with_reducible exact H2_) | (have H2_ := (Option.bind_some _ _).symm.trans H; with_reducible exact H2_) | with_reducible exact H | (rw [hy420]; exact H) | exact H
     have Ny420 := MK hy420
     clear hy420
     replace H := Option.bind_eq_some_iff.mp H
     obtain ⟨⟨t423, t424, t425⟩, A560, H⟩ := H
     replace H : (if 0 ≤ t423 then (if t423 < (y420.length : Int) then (some (a1_0, a1_1, a1_2, rd y420 t423, a1_4, t424, t425)) else (none)) else (none)) = some (r1, r2, r3, r4, r5, r6, r7) := H
     have A56 := MK A560
     clear A560
     by_cases c57 : 0 ≤ t423
     ·rw [if_pos c57] at H
      have c57b0 : decide (0 ≤ t423) = true := decide_eq_true c57
      clear c57
      by_cases c58 : t423 < (y420.length : Int)
      ·rw [if_pos c58] at H
       have c58b0 : decide (t423 < (y420.length : Int)) = true := decide_eq_true c58
       clear c58
       simp only [Option.some.injEq, Prod.mk.injEq] at H
       obtain ⟨rfl, rfl, rfl, rfl, rfl, rfl, rfl⟩ := H
       go_wp2_with (first | ((with_reducible refine gate_dst (N := 47) rfl ?_); refine Kd.R_lit (Kd.int .i64) _ 3 ?hg (N := 47) ?hd (xs := ([(-1), 100, 101] : List Int)) (inner := [.int .i64 (-1), .int .i64 100, .int .i64 101]) (ok := fun _ => True) (okp := fun _ => True) ?hr ?hp (fun _ hk => hk) trivial (Below.refl _ _) (Nat.le_refl _) (by simp) ?_; (case hd => rfl); (case hg => rfl); (case hr => first | (go_simp; done) | (go_simp; rfl)); (case hp => exact (Reps.one (show Kd.M (Kd.int .i64) _ _ _ (-1) [.int .i64 (-1)] from rfl) (Reps.one (show Kd.M (Kd.int .i64) _ _ _ 100 [.int .i64 100] from rfl) (Reps.one (show Kd.M (Kd.int .i64) _ _ _ 101 [.int .i64 101] from rfl) (Reps.none _ _))))); intro v421 w59 ho60 hb hg_ hnew_; clear hg_ hnew_; (first | rw [← Ny420.out] at ho60 | (simp only [Int.reduceToNat] at ho60; rw [← Ny420.out] at ho60)); have n0_ := MK (Kd.R_lower ho60 (keep_size (w := w) (g := g) (row := none) (by repeat (first | (with_reducible first | exact HK.out | apply KeepBut.set_ | apply keep_drewN | apply keep_drew | apply keep_alloc | refine keep_far ?_ GW394.out _ | refine keep_far ?_ GW395.out _) | exact HK.out)))); have n1_ := MK (IsS57.below (by repeat (first | (with_reducible first | exact HI0.out | apply IsS57.alloc | apply IsS57.drewN | apply IsS57.drew | apply IsS57.set_1 | apply IsS57.set_2 | refine IsS57.far ?_ NB0_394.out _ | refine IsS57.far ?_ NB0_395.out _) | exact HI0.out)) hb); have n2_ := MK (blk_below (by (with_reducible repeat (first | refine bN ?_ _ | refine bD ?_ | refine bA ?_ _)); exact BK394.out) hb); have n3_ := MK (blk_below (by (with_reducible repeat (first | refine bN ?_ _ | refine bD ?_ | refine bA ?_ _)); exact BK395.out) hb); have n4_ := MK (KeepBut.trans (by repeat (first | (with_reducible first | exact HK.out | apply KeepBut.set_ | apply keep_drewN | apply keep_drew | apply keep_alloc | refine keep_far ?_ GW394.out _ | refine keep_far ?_ GW395.out _) | exact HK.out)) (KeepBut.of_below hb g none) (.inl rfl)); have n5_ := MK (below_step (by repeat (first | (with_reducible first | exact HB.out | apply lA | apply lN | apply lD | refine lS ?_ (IsS57.ge HI0.out) | refine lS ?_ GE394.out | refine lS ?_ GE395.out) | exact HB.out)) hb); clear HI0; clear BK394; clear BK395; clear HK; clear HB; have HO422 := n0_; have HI0 := n1_; have BK394 := n2_; have BK395 := n3_; have HK := n4_; have HB := n5_; clear n0_ n1_ n2_ n3_ n4_ n5_; clear hb ho60) | ((with_reducible refine gate_callee (f := 45) rfl ?_); refine goesL_ (some 49) rfl rfl Try.func45 (by kernel_rfl) rfl #[.pointer (some ⟨g, 0, none⟩), .int .i64 3] rfl (by (try simp only [List.map_toArray, List.map_cons, List.map_nil]); first | done | rfl | (simp only [List.length_drop, List.length_take]; rfl)) ?_; (with_reducible refine (spec_l4Cur_pick.calls g s0_0 t397 t398 3 t423 t424 t425 w0 _ ?side1 ?side2 A56.out).mono ?_); (case side1 => repeat (first | (with_reducible first | exact HI0.out | apply IsS57.alloc | apply IsS57.drewN | apply IsS57.drew | apply IsS57.set_1 | apply IsS57.set_2 | refine IsS57.far ?_ NB0_394.out _ | refine IsS57.far ?_ NB0_395.out _) | exact HI0.out)); (case side2 => repeat (first | (with_reducible first | exact HB.out | apply lA | apply lN | apply lD | refine lS ?_ (IsS57.ge HI0.out) | refine lS ?_ GE394.out | refine lS ?_ GE395.out) | exact HB.out)); rintro e w61 ⟨rfl, hi, hb, hk⟩; refine ⟨_, rfl, ?_⟩; have n0_ := MK (KeepBut.blk hk (g' := gb394) (o := .cells #[.int .i64 a1_0, .int .i64 a1_1, .int .i64 a1_2, .int .i64 a1_3, .int .i64 a1_4] 24 (0, 0)) (by (with_reducible repeat (first | refine bN ?_ _ | refine bD ?_ | refine bA ?_ _)); exact BK394.out) NB394_0.out (by simp)); have n1_ := MK (KeepBut.blk hk (g' := gb395) (o := .cells #[.int .i64 0, .int .i64 0, .int .i64 0, .int .i64 0, .int .i64 0] 24 (0, 0)) (by (with_reducible repeat (first | refine bN ?_ _ | refine bD ?_ | refine bA ?_ _)); exact BK395.out) NB395_0.out (by simp)); have n2_ := MK (Kd.R_mono (Kd.R_keep (IsS57.apart (show IsS57 w0 _ g s0_0 t397 t398 from by repeat (first | (with_reducible first | exact HI0.out | apply IsS57.alloc | apply IsS57.drewN | apply IsS57.drew | apply IsS57.set_1 | apply IsS57.set_2 | refine IsS57.far ?_ NB0_394.out _ | refine IsS57.far ?_ NB0_395.out _) | exact HI0.out)) (by (with_reducible repeat (first | apply Kd.R_alloc | apply Kd.R_drewN | apply Kd.R_drew)); exact HO422.out) (by decide)) hk (fun _ h => h.2)) (fun _ h => h.1)); have n3_ := MK (KeepBut.trans (by repeat (first | (with_reducible first | exact HK.out | apply KeepBut.set_ | apply keep_drewN | apply keep_drew | apply keep_alloc | refine keep_far ?_ GW394.out _ | refine keep_far ?_ GW395.out _) | exact HK.out)) hk (.inl rfl)); have n4_ := MK (hb); have n5_ := MK (hi); clear BK394; clear BK395; clear HO422; clear HK; clear HB; clear HI0; have BK394 := n0_; have BK395 := n1_; have HO422 := n2_; have HK := n3_; have HB := n4_; have HI0 := n5_; clear n0_ n1_ n2_ n3_ n4_ n5_; (try clear hb); (try clear hb2); (try clear hk); (try clear hi); obtain ⟨Ao62, co62, eo62⟩ := Kd.R_slice HO422.out; subst eo62; have p426 : 0 ≤ (t423 : Int) := of_decide_eq_true (by first | (with_reducible assumption) | assumption); have q426 : t423 < (y420.length : Int) := of_decide_eq_true (by first | (with_reducible assumption) | assumption); obtain ⟨ad426, e426, hx426_0⟩ := Kd.at_int (Kd.R_reads' HO422.out).2.2 t423 p426 q426; cases e426; replace p426 := eq_true p426; replace q426 := eq_true q426; have hnb63 := NB394_395.out; have hnc63 := NB395_394.out; have hnb64 := NB394_0.out; have hnc64 := NB0_394.out; obtain ⟨hcz65_0, hcz65_1, hcz65_2, hcz65_3, hcz65_4⟩ := bc5 BK394.out; obtain ⟨hfz65_0, hfz65_1, hfz65_2, hfz65_3, hfz65_4⟩ := bf5 BK394.out; have hnb66 := NB395_0.out; have hnc66 := NB0_395.out; obtain ⟨hcz67_0, hcz67_1, hcz67_2, hcz67_3, hcz67_4⟩ := bc5 BK395.out; obtain ⟨hfz67_0, hfz67_1, hfz67_2, hfz67_3, hfz67_4⟩ := bf5 BK395.out))
       refine bodyPost_ret (results_cell_row rfl _ _ gb395 24 #[.int .i64 a1_0, .int .i64 a1_1, .int .i64 a1_2, .int .i64 (rd y420 t423), .int .i64 a1_4] (0, 0) _ rfl (by (with_reducible repeat (first | refine bN ?_ _ | refine bD ?_ | refine bA ?_ _)); refine blk_put (cs := #[.int .i64 a1_0, .int .i64 a1_1, .int .i64 a1_2, .int .i64 (rd y420 t423), .int .i64 0]) ?_ 4 _ rfl; (with_reducible repeat (first | refine bN ?_ _ | refine bD ?_ | refine bA ?_ _)); refine blk_put (cs := #[.int .i64 a1_0, .int .i64 a1_1, .int .i64 a1_2, .int .i64 0, .int .i64 0]) ?_ 3 _ rfl; (with_reducible repeat (first | refine bN ?_ _ | refine bD ?_ | refine bA ?_ _)); refine blk_put (cs := #[.int .i64 a1_0, .int .i64 a1_1, .int .i64 0, .int .i64 0, .int .i64 0]) ?_ 2 _ rfl; (with_reducible repeat (first | refine bN ?_ _ | refine bD ?_ | refine bA ?_ _)); refine blk_put (cs := #[.int .i64 a1_0, .int .i64 0, .int .i64 0, .int .i64 0, .int .i64 0]) ?_ 1 _ rfl; (with_reducible repeat (first | refine bN ?_ _ | refine bD ?_ | refine bA ?_ _)); refine blk_put (cs := #[.int .i64 0, .int .i64 0, .int .i64 0, .int .i64 0, .int .i64 0]) ?_ 0 _ rfl; (with_reducible repeat (first | refine bN ?_ _ | refine bD ?_ | refine bA ?_ _)); refine blk_far ?_ NB395_394.out _; (with_reducible repeat (first | refine bN ?_ _ | refine bD ?_ | refine bA ?_ _)); exact BK395.out) Try.underlying24 rfl (by kernel_rfl)) rfl ?_
       exact ⟨by first | rfl | (simp [errW_none, errW_some] <;> rfl) | (simp [*, errW_none, errW_some] <;> rfl), by repeat (first | (with_reducible first | exact HI0.out | apply IsS57.alloc | apply IsS57.drewN | apply IsS57.drew | apply IsS57.set_1 | apply IsS57.set_2 | refine IsS57.far ?_ NB0_394.out _ | refine IsS57.far ?_ NB0_395.out _) | exact HI0.out), by repeat (first | (with_reducible first | exact HB.out | apply lA | apply lN | apply lD | refine lS ?_ (IsS57.ge HI0.out) | refine lS ?_ GE394.out | refine lS ?_ GE395.out) | exact HB.out), by repeat (first | (with_reducible first | exact HK.out | apply KeepBut.set_ | apply keep_drewN | apply keep_drew | apply keep_alloc | refine keep_far ?_ GW394.out _ | refine keep_far ?_ GW395.out _) | exact HK.out)⟩
      ·rw [if_neg c58] at H
       exact absurd H (by simp)
     ·rw [if_neg c57] at H
      exact absurd H (by simp)
    ·rw [if_neg c55] at H
     have c55b0 : (t396 == 3) = false := beq_eq_false_iff_ne.mpr c55
     have c55b1 : (t396 != 3) = true := bne_iff_ne.mpr c55
     obtain ⟨y427, hy427⟩ : ∃ y_ : List Int, y_ = (([(-1), 60, 61] : List Int)) := ⟨_, rfl⟩
     replace H : ((spec_l4Cur_pick.f s0_0 t397 t398 3).bind fun bt430 => (if 0 ≤ bt430.1 then (if bt430.1 < (y427.length : Int) then (some (a1_0, a1_1, a1_2, a1_3, rd y427 bt430.1, bt430.2.1, bt430.2.2)) else (none)) else (none))) = some (r1, r2, r3, r4, r5, r6, r7) := by first | (rw [hy427]; with_reducible exact H) | (have H2_ := (Option.bind_some _ _).symm.trans H; rw [hy427]; with_reducible exact H2_) | (have H2_ := (Option.bind_some _ _).symm.trans H; with_reducible exact H2_) | with_reducible exact H | (rw [hy427]; exact H) | exact H
     have Ny427 := MK hy427
     clear hy427
     replace H := Option.bind_eq_some_iff.mp H
     obtain ⟨⟨t430, t431, t432⟩, A680, H⟩ := H
     replace H : (if 0 ≤ t430 then (if t430 < (y427.length : Int) then (some (a1_0, a1_1, a1_2, a1_3, rd y427 t430, t431, t432)) else (none)) else (none)) = some (r1, r2, r3, r4, r5, r6, r7) := H
     have A68 := MK A680
     clear A680
     by_cases c69 : 0 ≤ t430
     ·rw [if_pos c69] at H
      have c69b0 : decide (0 ≤ t430) = true := decide_eq_true c69
      clear c69
      by_cases c70 : t430 < (y427.length : Int)
      ·rw [if_pos c70] at H
       have c70b0 : decide (t430 < (y427.length : Int)) = true := decide_eq_true c70
       clear c70
       simp only [Option.some.injEq, Prod.mk.injEq] at H
       obtain ⟨rfl, rfl, rfl, rfl, rfl, rfl, rfl⟩ := H
       go_wp2_with (first | ((with_reducible refine gate_dst (N := 7) rfl ?_); refine Kd.R_lit (Kd.int .i64) _ 3 ?hg (N := 7) ?hd (xs := ([(-1), 60, 61] : List Int)) (inner := [.int .i64 (-1), .int .i64 60, .int .i64 61]) (ok := fun _ => True) (okp := fun _ => True) ?hr ?hp (fun _ hk => hk) trivial (Below.refl _ _) (Nat.le_refl _) (by simp) ?_; (case hd => rfl); (case hg => rfl); (case hr => first | (go_simp; done) | (go_simp; rfl)); (case hp => exact (Reps.one (show Kd.M (Kd.int .i64) _ _ _ (-1) [.int .i64 (-1)] from rfl) (Reps.one (show Kd.M (Kd.int .i64) _ _ _ 60 [.int .i64 60] from rfl) (Reps.one (show Kd.M (Kd.int .i64) _ _ _ 61 [.int .i64 61] from rfl) (Reps.none _ _))))); intro v428 w71 ho72 hb hg_ hnew_; clear hg_ hnew_; (first | rw [← Ny427.out] at ho72 | (simp only [Int.reduceToNat] at ho72; rw [← Ny427.out] at ho72)); have n0_ := MK (Kd.R_lower ho72 (keep_size (w := w) (g := g) (row := none) (by repeat (first | (with_reducible first | exact HK.out | apply KeepBut.set_ | apply keep_drewN | apply keep_drew | apply keep_alloc | refine keep_far ?_ GW394.out _ | refine keep_far ?_ GW395.out _) | exact HK.out)))); have n1_ := MK (IsS57.below (by repeat (first | (with_reducible first | exact HI0.out | apply IsS57.alloc | apply IsS57.drewN | apply IsS57.drew | apply IsS57.set_1 | apply IsS57.set_2 | refine IsS57.far ?_ NB0_394.out _ | refine IsS57.far ?_ NB0_395.out _) | exact HI0.out)) hb); have n2_ := MK (blk_below (by (with_reducible repeat (first | refine bN ?_ _ | refine bD ?_ | refine bA ?_ _)); exact BK394.out) hb); have n3_ := MK (blk_below (by (with_reducible repeat (first | refine bN ?_ _ | refine bD ?_ | refine bA ?_ _)); exact BK395.out) hb); have n4_ := MK (KeepBut.trans (by repeat (first | (with_reducible first | exact HK.out | apply KeepBut.set_ | apply keep_drewN | apply keep_drew | apply keep_alloc | refine keep_far ?_ GW394.out _ | refine keep_far ?_ GW395.out _) | exact HK.out)) (KeepBut.of_below hb g none) (.inl rfl)); have n5_ := MK (below_step (by repeat (first | (with_reducible first | exact HB.out | apply lA | apply lN | apply lD | refine lS ?_ (IsS57.ge HI0.out) | refine lS ?_ GE394.out | refine lS ?_ GE395.out) | exact HB.out)) hb); clear HI0; clear BK394; clear BK395; clear HK; clear HB; have HO429 := n0_; have HI0 := n1_; have BK394 := n2_; have BK395 := n3_; have HK := n4_; have HB := n5_; clear n0_ n1_ n2_ n3_ n4_ n5_; clear hb ho72) | ((with_reducible refine gate_callee (f := 45) rfl ?_); refine goesL_ (some 9) rfl rfl Try.func45 (by kernel_rfl) rfl #[.pointer (some ⟨g, 0, none⟩), .int .i64 3] rfl (by (try simp only [List.map_toArray, List.map_cons, List.map_nil]); first | done | rfl | (simp only [List.length_drop, List.length_take]; rfl)) ?_; (with_reducible refine (spec_l4Cur_pick.calls g s0_0 t397 t398 3 t430 t431 t432 w0 _ ?side1 ?side2 A68.out).mono ?_); (case side1 => repeat (first | (with_reducible first | exact HI0.out | apply IsS57.alloc | apply IsS57.drewN | apply IsS57.drew | apply IsS57.set_1 | apply IsS57.set_2 | refine IsS57.far ?_ NB0_394.out _ | refine IsS57.far ?_ NB0_395.out _) | exact HI0.out)); (case side2 => repeat (first | (with_reducible first | exact HB.out | apply lA | apply lN | apply lD | refine lS ?_ (IsS57.ge HI0.out) | refine lS ?_ GE394.out | refine lS ?_ GE395.out) | exact HB.out)); rintro e w73 ⟨rfl, hi, hb, hk⟩; refine ⟨_, rfl, ?_⟩; have n0_ := MK (KeepBut.blk hk (g' := gb394) (o := .cells #[.int .i64 a1_0, .int .i64 a1_1, .int .i64 a1_2, .int .i64 a1_3, .int .i64 a1_4] 24 (0, 0)) (by (with_reducible repeat (first | refine bN ?_ _ | refine bD ?_ | refine bA ?_ _)); exact BK394.out) NB394_0.out (by simp)); have n1_ := MK (KeepBut.blk hk (g' := gb395) (o := .cells #[.int .i64 0, .int .i64 0, .int .i64 0, .int .i64 0, .int .i64 0] 24 (0, 0)) (by (with_reducible repeat (first | refine bN ?_ _ | refine bD ?_ | refine bA ?_ _)); exact BK395.out) NB395_0.out (by simp)); have n2_ := MK (Kd.R_mono (Kd.R_keep (IsS57.apart (show IsS57 w0 _ g s0_0 t397 t398 from by repeat (first | (with_reducible first | exact HI0.out | apply IsS57.alloc | apply IsS57.drewN | apply IsS57.drew | apply IsS57.set_1 | apply IsS57.set_2 | refine IsS57.far ?_ NB0_394.out _ | refine IsS57.far ?_ NB0_395.out _) | exact HI0.out)) (by (with_reducible repeat (first | apply Kd.R_alloc | apply Kd.R_drewN | apply Kd.R_drew)); exact HO429.out) (by decide)) hk (fun _ h => h.2)) (fun _ h => h.1)); have n3_ := MK (KeepBut.trans (by repeat (first | (with_reducible first | exact HK.out | apply KeepBut.set_ | apply keep_drewN | apply keep_drew | apply keep_alloc | refine keep_far ?_ GW394.out _ | refine keep_far ?_ GW395.out _) | exact HK.out)) hk (.inl rfl)); have n4_ := MK (hb); have n5_ := MK (hi); clear BK394; clear BK395; clear HO429; clear HK; clear HB; clear HI0; have BK394 := n0_; have BK395 := n1_; have HO429 := n2_; have HK := n3_; have HB := n4_; have HI0 := n5_; clear n0_ n1_ n2_ n3_ n4_ n5_; (try clear hb); (try clear hb2); (try clear hk); (try clear hi); obtain ⟨Ao74, co74, eo74⟩ := Kd.R_slice HO429.out; subst eo74; have p433 : 0 ≤ (t430 : Int) := of_decide_eq_true (by first | (with_reducible assumption) | assumption); have q433 : t430 < (y427.length : Int) := of_decide_eq_true (by first | (with_reducible assumption) | assumption); obtain ⟨ad433, e433, hx433_0⟩ := Kd.at_int (Kd.R_reads' HO429.out).2.2 t430 p433 q433; cases e433; replace p433 := eq_true p433; replace q433 := eq_true q433; have hnb75 := NB394_395.out; have hnc75 := NB395_394.out; have hnb76 := NB394_0.out; have hnc76 := NB0_394.out; obtain ⟨hcz77_0, hcz77_1, hcz77_2, hcz77_3, hcz77_4⟩ := bc5 BK394.out; obtain ⟨hfz77_0, hfz77_1, hfz77_2, hfz77_3, hfz77_4⟩ := bf5 BK394.out; have hnb78 := NB395_0.out; have hnc78 := NB0_395.out; obtain ⟨hcz79_0, hcz79_1, hcz79_2, hcz79_3, hcz79_4⟩ := bc5 BK395.out; obtain ⟨hfz79_0, hfz79_1, hfz79_2, hfz79_3, hfz79_4⟩ := bf5 BK395.out))
       refine bodyPost_ret (results_cell_row rfl _ _ gb395 24 #[.int .i64 a1_0, .int .i64 a1_1, .int .i64 a1_2, .int .i64 a1_3, .int .i64 (rd y427 t430)] (0, 0) _ rfl (by (with_reducible repeat (first | refine bN ?_ _ | refine bD ?_ | refine bA ?_ _)); refine blk_put (cs := #[.int .i64 a1_0, .int .i64 a1_1, .int .i64 a1_2, .int .i64 a1_3, .int .i64 0]) ?_ 4 _ rfl; (with_reducible repeat (first | refine bN ?_ _ | refine bD ?_ | refine bA ?_ _)); refine blk_put (cs := #[.int .i64 a1_0, .int .i64 a1_1, .int .i64 a1_2, .int .i64 0, .int .i64 0]) ?_ 3 _ rfl; (with_reducible repeat (first | refine bN ?_ _ | refine bD ?_ | refine bA ?_ _)); refine blk_put (cs := #[.int .i64 a1_0, .int .i64 a1_1, .int .i64 0, .int .i64 0, .int .i64 0]) ?_ 2 _ rfl; (with_reducible repeat (first | refine bN ?_ _ | refine bD ?_ | refine bA ?_ _)); refine blk_put (cs := #[.int .i64 a1_0, .int .i64 0, .int .i64 0, .int .i64 0, .int .i64 0]) ?_ 1 _ rfl; (with_reducible repeat (first | refine bN ?_ _ | refine bD ?_ | refine bA ?_ _)); refine blk_put (cs := #[.int .i64 0, .int .i64 0, .int .i64 0, .int .i64 0, .int .i64 0]) ?_ 0 _ rfl; (with_reducible repeat (first | refine bN ?_ _ | refine bD ?_ | refine bA ?_ _)); refine blk_far ?_ NB395_394.out _; (with_reducible repeat (first | refine bN ?_ _ | refine bD ?_ | refine bA ?_ _)); exact BK395.out) Try.underlying24 rfl (by kernel_rfl)) rfl ?_
       exact ⟨by first | rfl | (simp [errW_none, errW_some] <;> rfl) | (simp [*, errW_none, errW_some] <;> rfl), by repeat (first | (with_reducible first | exact HI0.out | apply IsS57.alloc | apply IsS57.drewN | apply IsS57.drew | apply IsS57.set_1 | apply IsS57.set_2 | refine IsS57.far ?_ NB0_394.out _ | refine IsS57.far ?_ NB0_395.out _) | exact HI0.out), by repeat (first | (with_reducible first | exact HB.out | apply lA | apply lN | apply lD | refine lS ?_ (IsS57.ge HI0.out) | refine lS ?_ GE394.out | refine lS ?_ GE395.out) | exact HB.out), by repeat (first | (with_reducible first | exact HK.out | apply KeepBut.set_ | apply keep_drewN | apply keep_drew | apply keep_alloc | refine keep_far ?_ GW394.out _ | refine keep_far ?_ GW395.out _) | exact HK.out)⟩
      ·rw [if_neg c70] at H
       exact absurd H (by simp)
     ·rw [if_neg c69] at H
      exact absurd H (by simp)

end Go.Proofs.Ytcfhjidddpoijaa.Q
