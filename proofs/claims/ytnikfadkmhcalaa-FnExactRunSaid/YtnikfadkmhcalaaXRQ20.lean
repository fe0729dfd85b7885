/- Walks: a call of each function answers what its Lean function tells; no condition but that it tells something. -/
import Derived.Test.YtnikfadkmhcalaaXRQ0
import Derived.Test.YtnikfadkmhcalaaXRQ12
import Derived.Test.YtnikfadkmhcalaaXRQ16
namespace Go.Proofs.Ytnikfadkmhcalaa.Q
open Go.RowKit Go.Proofs.YtnikfadkmhcalaaW.PrintWords Go.Proofs.YtnikfadkmhcalaaW.PrintLast Go.Proofs.YtnikfadkmhcalaaW.PrintMore
attribute [local go_sem] max2_int min2_int max_two min_two max_three min_three max_four min_four   -- for this text's walks alone
set_option linter.unusedVariables false
set_option linter.unusedSimpArgs false

/-! ### impl_tick: function 68 -/
mutual
def impl_tick.j0 : Nat → Bool → Int → Int → Int → Int → Int → Int → Int → Int → Int → Int → Int → Bool → Bool → Int → Int → Int → Bool → Bool → Option (Bool × Int × Int × Int × Bool × Bool)
 | 0, _, _, _, _, _, _, _, _, _, _, _, _, _, _, _, _, _, _, _ => none
 | k + 1, x7, x321000, x321001, x321002, x321003, x321004, x322000, x322001, x323000, x323001, x323002, x323003, x323004, x326000, x326001, x326002, x326003, x326004, x326005 => (impl_Permitted.f x321000 x321001 x321002 x321003 x321004 (mx 0 (wrap64 (x323002 - x323000))) x323003).bind fun t326 => (if x322000 = 3 then (if x323001 = 0 then (if x323004 = true then (impl_tick.j1 k x7 t326 (!x7) x322000 x322001 x323000 x323001 x323002 x323003 x323004 x326000 x326001 x326002 x326003 x326004 x326005) else (impl_tick.j1 k x7 t326 (!false) x322000 x322001 x323000 x323001 x323002 x323003 x323004 x326000 x326001 x326002 x326003 x326004 x326005)) else (impl_tick.j1 k x7 t326 (!false) x322000 x322001 x323000 x323001 x323002 x323003 x323004 x326000 x326001 x326002 x326003 x326004 x326005)) else (impl_tick.j1 k x7 t326 false x322000 x322001 x323000 x323001 x323002 x323003 x323004 x326000 x326001 x326002 x326003 x326004 x326005))
def impl_tick.j1 : Nat → Bool → Int → Bool → Int → Int → Int → Int → Int → Int → Bool → Bool → Int → Int → Int → Bool → Bool → Option (Bool × Int × Int × Int × Bool × Bool)
 | 0, _, _, _, _, _, _, _, _, _, _, _, _, _, _, _, _ => none
 | k + 1, x7, x9, x49, x322000, x322001, x323000, x323001, x323002, x323003, x323004, x326000, x326001, x326002, x326003, x326004, x326005 => if x49 = true then (impl_tick.j2 k x9 x49 x322000 x322001 x323000 x323001 x323002 x323003 x323004 x326000 x326001 x326002 x326003 x326004 x326005) else (impl_tick.j2 k x9 (!x7) x322000 x322001 x323000 x323001 x323002 x323003 x323004 x326000 x326001 x326002 x326003 x326004 x326005)
def impl_tick.j2 : Nat → Int → Bool → Int → Int → Int → Int → Int → Int → Bool → Bool → Int → Int → Int → Bool → Bool → Option (Bool × Int × Int × Int × Bool × Bool)
 | 0, _, _, _, _, _, _, _, _, _, _, _, _, _, _, _ => none
 | k + 1, x9, x49, x322000, x322001, x323000, x323001, x323002, x323003, x323004, x326000, x326001, x326002, x326003, x326004, x326005 => if x49 = true then (some (x326000, 3, x326002, x326003, x326004, x326005)) else (if x323001 > x9 then (impl_tick.j3 k x9 (x322000 != 0) x323000 x323001 x323002 x323003 x323004 x326000 x326001 x326002 x326003 x326004 x326005) else (impl_tick.j3 k x9 false x323000 x323001 x323002 x323003 x323004 x326000 x326001 x326002 x326003 x326004 x326005))
def impl_tick.j3 : Nat → Int → Bool → Int → Int → Int → Int → Bool → Bool → Int → Int → Int → Bool → Bool → Option (Bool × Int × Int × Int × Bool × Bool)
 | 0, _, _, _, _, _, _, _, _, _, _, _, _, _ => none
 | k + 1, x9, x71, x323000, x323001, x323002, x323003, x323004, x326000, x326001, x326002, x326003, x326004, x326005 => if x71 = true then (some (x326000, 2, x326002, x9, x326004, x326005)) else (if x323001 > x9 then (some (x326000, 1, x326002, x9, x326004, x326005)) else (some (x326000, x326001, x326002, x9, x326004, x326005)))
end
def impl_tick.f (k : Nat) (a0_0 : Int) (a0_1 : Int) (a0_2 : Int) (a0_3 : Int) (a0_4 : Int) (a1_0 : Int) (a1_1 : Int) (a2_0 : Int) (a2_1 : Int) (a2_2 : Int) (a2_3 : Int) (a2_4 : Bool) : Option (Bool × Int × Int × Int × Bool × Bool) := (impl_worst.f k a0_0 a0_1 a0_2 a0_3 a0_4 a2_1).bind fun t324 => (if a2_2 = a1_1 then (impl_tick.j0 k (decide (t324 ≤ (wrap64 (a2_2 - a2_0)))) a0_0 a0_1 a0_2 a0_3 a0_4 a1_0 a1_1 a2_0 a2_1 a2_2 a2_3 a2_4 true 0 a2_2 0 false false) else (if a2_2 > a1_1 then (impl_tick.j0 k (decide (t324 ≤ (wrap64 (a2_2 - a2_0)))) a0_0 a0_1 a0_2 a0_3 a0_4 a1_0 a1_1 a2_0 a2_1 a2_2 a2_3 a2_4 true 0 a2_2 0 true true) else (impl_tick.j0 k (decide (t324 ≤ (wrap64 (a2_2 - a2_0)))) a0_0 a0_1 a0_2 a0_3 a0_4 a1_0 a1_1 a2_0 a2_1 a2_2 a2_3 a2_4 true 0 a2_2 0 (decide (t324 ≤ (wrap64 (a2_2 - a2_0)))) true)))
def impl_tick.T1 : Bool × List (List Nat × List Nat) := (true, [([], []), ([], []), ([1], [1]), ([0, 2], [0, 2]), ([], []), ([4], [4]), ([], []), ([6], [6]), ([5, 7], [5, 7]), ([3, 8], [3, 8]), ([9, 3, 0, 1, 2, 3, 4, 5, 6, 7, 8, 9], [9])])
def impl_tick.B1 : List Nat := [0, 0, 2, 7, 0, 16, 0, 64, 240, 511, 1023]
theorem impl_tick.tab1 : rtab .any (opsOf Try.f68 1) = impl_tick.T1 := by kernel_rfl
theorem impl_tick.bits1 : waitsOk impl_tick.T1.2 impl_tick.B1 = true := by kernel_rfl
set_option maxHeartbeats 8000000 in
set_option maxRecDepth 100000 in
theorem impl_tick.calls (k : Nat) (a0_0 : Int) (a0_1 : Int) (a0_2 : Int) (a0_3 : Int) (a0_4 : Int) (a1_0 : Int) (a1_1 : Int) (a2_0 : Int) (a2_1 : Int) (a2_2 : Int) (a2_3 : Int) (a2_4 : Bool) (r1 : Bool) (r2 : Int) (r3 : Int) (r4 : Int) (r5 : Bool) (r6 : Bool) (w : World) (h : impl_tick.f k a0_0 a0_1 a0_2 a0_3 a0_4 a1_0 a1_1 a2_0 a2_1 a2_2 a2_3 a2_4 = some (r1, r2, r3, r4, r5, r6)) :
  Calls Try.prog 68 #[.agg #[.int .i64 a0_0, .int .i64 a0_1, .int .i64 a0_2, .int .i64 a0_3, .int .i64 a0_4], .agg #[.int .i64 a1_0, .int .i64 a1_1], .agg #[.int .i64 a2_0, .int .i64 a2_1, .int .i64 a2_2, .int .i64 a2_3, .bool a2_4]] w fun e w' => e = .returned (.agg #[.bool r1, .int .i64 r2, .int .i64 r3, .int .i64 r4, .bool r5, .bool r6]) ∧ Below w.heap.size w w' := by
 have hu32 := Try.underlying32
 have hu26 := Try.underlying26
 have hu38 := Try.underlying38
 have hu52 := Try.underlying52
 have HB := MK (Below.refl w.heap.size w)
 have H : ((impl_worst.f k a0_0 a0_1 a0_2 a0_3 a0_4 a2_1).bind fun t324 => (if a2_2 = a1_1 then (impl_tick.j0 k (decide (t324 ≤ (wrap64 (a2_2 - a2_0)))) a0_0 a0_1 a0_2 a0_3 a0_4 a1_0 a1_1 a2_0 a2_1 a2_2 a2_3 a2_4 true 0 a2_2 0 false false) else (if a2_2 > a1_1 then (impl_tick.j0 k (decide (t324 ≤ (wrap64 (a2_2 - a2_0)))) a0_0 a0_1 a0_2 a0_3 a0_4 a1_0 a1_1 a2_0 a2_1 a2_2 a2_3 a2_4 true 0 a2_2 0 true true) else (impl_tick.j0 k (decide (t324 ≤ (wrap64 (a2_2 - a2_0)))) a0_0 a0_1 a0_2 a0_3 a0_4 a1_0 a1_1 a2_0 a2_1 a2_2 a2_3 a2_4 true 0 a2_2 0 (decide (t324 ≤ (wrap64 (a2_2 - a2_0)))) true)))) = some (r1, r2, r3, r4, r5, r6) := h
 clear h
 replace H := Option.bind_eq_some_iff.mp H
 obtain ⟨t324, A40, H⟩ := H
 replace H : (if a2_2 = a1_1 then (impl_tick.j0 k (decide (t324 ≤ (wrap64 (a2_2 - a2_0)))) a0_0 a0_1 a0_2 a0_3 a0_4 a1_0 a1_1 a2_0 a2_1 a2_2 a2_3 a2_4 true 0 a2_2 0 false false) else (if a2_2 > a1_1 then (impl_tick.j0 k (decide (t324 ≤ (wrap64 (a2_2 - a2_0)))) a0_0 a0_1 a0_2 a0_3 a0_4 a1_0 a1_1 a2_0 a2_1 a2_2 a2_3 a2_4 true 0 a2_2 0 true true) else (impl_tick.j0 k (decide (t324 ≤ (wrap64 (a2_2 - a2_0)))) a0_0 a0_1 a0_2 a0_3 a0_4 a1_0 a1_1 a2_0 a2_1 a2_2 a2_3 a2_4 true 0 a2_2 0 (decide (t324 ≤ (wrap64 (a2_2 - a2_0)))) true))) = some (r1, r2, r3, r4, r5, r6) := H
 have A4 := MK A40
 clear A40
 have HC5 := MK H
 clear H
 go_enter Try.func68, Try.ntmps68
 try go_wp2_with (first | ((with_reducible refine gate_dst (N := 3) rfl ?_); refine box_event ?hg (N := 3) ?hd (cs := #[.int .i64 a0_0, .int .i64 a0_1, .int .i64 a0_2, .int .i64 a0_3, .int .i64 a0_4]) (t := 32) ?hr ?_; (case hd => rfl); (case hg => rfl); (case hr => first | (go_simp; done) | (go_simp; rfl)); intro gb320 hg w6 hbox hb; have n0_ := MK (below_step (by repeat (first | (with_reducible first | exact HB.out | apply lA | apply lN | apply lD) | exact HB.out)) hb); have n1_ := MK (hbox); have n2_ := MK ((by rw [hg]; exact (below_size (by repeat (first | (with_reducible first | exact HB.out | apply lA | apply lN | apply lD) | exact HB.out))) : w.heap.size ≤ gb320)); have n3_ := MK ((by rw [hg]; exact (below_size (by repeat (first | (with_reducible first | exact HB.out | apply lA | apply lN | apply lD) | exact HB.out))) : w.heap.size ≤ gb320)); clear HB; have HB := n0_; have BK320 := n1_; have GW320 := n2_; have GE320 := n3_; clear n0_ n1_ n2_ n3_; clear hb hbox hg) | ((with_reducible refine gate_dst (N := 4) rfl ?_); refine box_event ?hg (N := 4) ?hd (cs := #[.int .i64 a1_0, .int .i64 a1_1]) (t := 26) ?hr ?_; (case hd => rfl); (case hg => rfl); (case hr => first | (go_simp; done) | (go_simp; rfl)); intro gb321 hg w7 hbox hb; have n0_ := MK (blk_below (by (with_reducible repeat (first | refine bN ?_ _ | refine bD ?_ | refine bA ?_ _)); exact BK320.out) hb); have n1_ := MK (below_step (by repeat (first | (with_reducible first | exact HB.out | apply lA | apply lN | apply lD | refine lS ?_ GE320.out) | exact HB.out)) hb); have n2_ := MK (hbox); have n3_ := MK ((by rw [hg]; exact (below_size (by repeat (first | (with_reducible first | exact HB.out | apply lA | apply lN | apply lD | refine lS ?_ GE320.out) | exact HB.out))) : w.heap.size ≤ gb321)); have n4_ := MK ((by rw [hg]; exact (below_size (by repeat (first | (with_reducible first | exact HB.out | apply lA | apply lN | apply lD | refine lS ?_ GE320.out) | exact HB.out))) : w.heap.size ≤ gb321)); have n5_ := MK ((by rw [hg]; exact Nat.ne_of_lt (blk_lt (by (with_reducible repeat (first | refine bN ?_ _ | refine bD ?_ | refine bA ?_ _)); exact BK320.out)) : gb320 ≠ gb321)); have n6_ := MK ((by rw [hg]; exact Nat.ne_of_gt (blk_lt (by (with_reducible repeat (first | refine bN ?_ _ | refine bD ?_ | refine bA ?_ _)); exact BK320.out)) : gb321 ≠ gb320)); clear BK320; clear HB; have BK320 := n0_; have HB := n1_; have BK321 := n2_; have GW321 := n3_; have GE321 := n4_; have NB320_321 := n5_; have NB321_320 := n6_; clear n0_ n1_ n2_ n3_ n4_ n5_ n6_; clear hb hbox hg) | ((with_reducible refine gate_dst (N := 5) rfl ?_); refine box_event ?hg (N := 5) ?hd (cs := #[.int .i64 a2_0, .int .i64 a2_1, .int .i64 a2_2, .int .i64 a2_3, .bool a2_4]) (t := 38) ?hr ?_; (case hd => rfl); (case hg => rfl); (case hr => first | (go_simp; done) | (go_simp; rfl)); intro gb322 hg w8 hbox hb; have n0_ := MK (blk_below (by (with_reducible repeat (first | refine bN ?_ _ | refine bD ?_ | refine bA ?_ _)); exact BK320.out) hb); have n1_ := MK (blk_below (by (with_reducible repeat (first | refine bN ?_ _ | refine bD ?_ | refine bA ?_ _)); exact BK321.out) hb); have n2_ := MK (below_step (by repeat (first | (with_reducible first | exact HB.out | apply lA | apply lN | apply lD | refine lS ?_ GE320.out | refine lS ?_ GE321.out) | exact HB.out)) hb); have n3_ := MK (hbox); have n4_ := MK ((by rw [hg]; exact (below_size (by repeat (first | (with_reducible first | exact HB.out | apply lA | apply lN | apply lD | refine lS ?_ GE320.out | refine lS ?_ GE321.out) | exact HB.out))) : w.heap.size ≤ gb322)); have n5_ := MK ((by rw [hg]; exact (below_size (by repeat (first | (with_reducible first | exact HB.out | apply lA | apply lN | apply lD | refine lS ?_ GE320.out | refine lS ?_ GE321.out) | exact HB.out))) : w.heap.size ≤ gb322)); have n6_ := MK ((by rw [hg]; exact Nat.ne_of_lt (blk_lt (by (with_reducible repeat (first | refine bN ?_ _ | refine bD ?_ | refine bA ?_ _)); exact BK320.out)) : gb320 ≠ gb322)); have n7_ := MK ((by rw [hg]; exact Nat.ne_of_gt (blk_lt (by (with_reducible repeat (first | refine bN ?_ _ | refine bD ?_ | refine bA ?_ _)); exact BK320.out)) : gb322 ≠ gb320)); have n8_ := MK ((by rw [hg]; exact Nat.ne_of_lt (blk_lt (by (with_reducible repeat (first | refine bN ?_ _ | refine bD ?_ | refine bA ?_ _)); exact BK321.out)) : gb321 ≠ gb322)); have n9_ := MK ((by rw [hg]; exact Nat.ne_of_gt (blk_lt (by (with_reducible repeat (first | refine bN ?_ _ | refine bD ?_ | refine bA ?_ _)); exact BK321.out)) : gb322 ≠ gb321)); clear BK320; clear BK321; clear HB; have BK320 := n0_; have BK321 := n1_; have HB := n2_; have BK322 := n3_; have GW322 := n4_; have GE322 := n5_; have NB320_322 := n6_; have NB322_320 := n7_; have NB321_322 := n8_; have NB322_321 := n9_; clear n0_ n1_ n2_ n3_ n4_ n5_ n6_ n7_ n8_ n9_; clear hb hbox hg) | ((with_reducible refine gate_dst (N := 6) rfl ?_); refine box_event ?hg (N := 6) ?hd (cs := #[.bool false, .int .i64 0, .int .i64 0, .int .i64 0, .bool false, .bool false]) (t := 52) ?hr ?_; (case hd => rfl); (case hg => rfl); (case hr => first | (go_simp; done) | (go_simp; rfl)); intro gb323 hg w9 hbox hb; have n0_ := MK (blk_below (by (with_reducible repeat (first | refine bN ?_ _ | refine bD ?_ | refine bA ?_ _)); exact BK320.out) hb); have n1_ := MK (blk_below (by (with_reducible repeat (first | refine bN ?_ _ | refine bD ?_ | refine bA ?_ _)); exact BK321.out) hb); have n2_ := MK (blk_below (by (with_reducible repeat (first | refine bN ?_ _ | refine bD ?_ | refine bA ?_ _)); exact BK322.out) hb); have n3_ := MK (below_step (by repeat (first | (with_reducible first | exact HB.out | apply lA | apply lN | apply lD | refine lS ?_ GE320.out | refine lS ?_ GE321.out | refine lS ?_ GE322.out) | exact HB.out)) hb); have n4_ := MK (hbox); have n5_ := MK ((by rw [hg]; exact (below_size (by repeat (first | (with_reducible first | exact HB.out | apply lA | apply lN | apply lD | refine lS ?_ GE320.out | refine lS ?_ GE321.out | refine lS ?_ GE322.out) | exact HB.out))) : w.heap.size ≤ gb323)); have n6_ := MK ((by rw [hg]; exact (below_size (by repeat (first | (with_reducible first | exact HB.out | apply lA | apply lN | apply lD | refine lS ?_ GE320.out | refine lS ?_ GE321.out | refine lS ?_ GE322.out) | exact HB.out))) : w.heap.size ≤ gb323)); have n7_ := MK ((by rw [hg]; exact Nat.ne_of_lt (blk_lt (by (with_reducible repeat (first | refine bN ?_ _ | refine bD ?_ | refine bA ?_ _)); exact BK320.out)) : gb320 ≠ gb323)); have n8_ := MK ((by rw [hg]; exact Nat.ne_of_gt (blk_lt (by (with_reducible repeat (first | refine bN ?_ _ | refine bD ?_ | refine bA ?_ _)); exact BK320.out)) : gb323 ≠ gb320)); have n9_ := MK ((by rw [hg]; exact Nat.ne_of_lt (blk_lt (by (with_reducible repeat (first | refine bN ?_ _ | refine bD ?_ | refine bA ?_ _)); exact BK321.out)) : gb321 ≠ gb323)); have n10_ := MK ((by rw [hg]; exact Nat.ne_of_gt (blk_lt (by (with_reducible repeat (first | refine bN ?_ _ | refine bD ?_ | refine bA ?_ _)); exact BK321.out)) : gb323 ≠ gb321)); have n11_ := MK ((by rw [hg]; exact Nat.ne_of_lt (blk_lt (by (with_reducible repeat (first | refine bN ?_ _ | refine bD ?_ | refine bA ?_ _)); exact BK322.out)) : gb322 ≠ gb323)); have n12_ := MK ((by rw [hg]; exact Nat.ne_of_gt (blk_lt (by (with_reducible repeat (first | refine bN ?_ _ | refine bD ?_ | refine bA ?_ _)); exact BK322.out)) : gb323 ≠ gb322)); clear BK320; clear BK321; clear BK322; clear HB; have BK320 := n0_; have BK321 := n1_; have BK322 := n2_; have HB := n3_; have BK323 := n4_; have GW323 := n5_; have GE323 := n6_; have NB320_323 := n7_; have NB323_320 := n8_; have NB321_323 := n9_; have NB323_321 := n10_; have NB322_323 := n11_; have NB323_322 := n12_; clear n0_ n1_ n2_ n3_ n4_ n5_ n6_ n7_ n8_ n9_ n10_ n11_ n12_; clear hb hbox hg))
 have n0_ := MK (bD BK320.out)
 have n1_ := MK (bD BK321.out)
 have n2_ := MK (bD BK322.out)
 have n3_ := MK (bD BK323.out)
 have n4_ := MK (lD HB.out)
 clear BK320
 clear BK321
 clear BK322
 clear BK323
 clear HB
 have BK320 := n0_
 have BK321 := n1_
 have BK322 := n2_
 have BK323 := n3_
 have HB := n4_
 clear n0_ n1_ n2_ n3_ n4_
 refine start_ (n := 11) (S := fun w' => w'.cell? ⟨gb320, 0, none⟩ = some (.int .i64 a0_0) ∧ w'.cell? ⟨gb320, 1, none⟩ = some (.int .i64 a0_1) ∧ w'.cell? ⟨gb320, 2, none⟩ = some (.int .i64 a0_2) ∧ w'.cell? ⟨gb320, 3, none⟩ = some (.int .i64 a0_3) ∧ w'.cell? ⟨gb320, 4, none⟩ = some (.int .i64 a0_4) ∧ w'.cell? ⟨gb322, 0, none⟩ = some (.int .i64 a2_0) ∧ w'.cell? ⟨gb322, 1, none⟩ = some (.int .i64 a2_1) ∧ w'.cell? ⟨gb322, 2, none⟩ = some (.int .i64 a2_2) ∧ w'.cell? ⟨gb322, 3, none⟩ = some (.int .i64 a2_3) ∧ w'.cell? ⟨gb322, 4, none⟩ = some (.bool a2_4)) (ds := []) #[false, false, false, false, false, false, false, false, false, false, false] (by kernel_rfl) rfl rfl ⟨(blk_cell BK320.out 0).trans rfl, (blk_cell BK320.out 1).trans rfl, (blk_cell BK320.out 2).trans rfl, (blk_cell BK320.out 3).trans rfl, (blk_cell BK320.out 4).trans rfl, (blk_cell BK322.out 0).trans rfl, (blk_cell BK322.out 1).trans rfl, (blk_cell BK322.out 2).trans rfl, (blk_cell BK322.out 3).trans rfl, (blk_cell BK322.out 4).trans rfl⟩ (fun hHeld => ?_); refine with_tabW impl_tick.tab1 impl_tick.bits1 (fun HT_ HW_ => ?_)
 generalize w9.drew = w10 at BK320 BK321 BK322 BK323 HB hHeld ⊢
 refine pure_ (i := 1) (N := some 11) (v := ?_) (a' := ?_) #[false, true, false, false, false, false, false, false, false, false, false] rfl rfl (any_of HT_.out (by kernel_rfl)) (fun _ _ _ h => h) (Or.inl ⟨by rfl, ?_⟩) ?_ ?_
 rotate_left
 ·intro w'; go_simp; with_reducible rfl
 rotate_left
 ·simp only [Act.put, List.setIfInBounds_toArray, List.set_cons_zero, List.set_cons_succ, i64_w, i32_w]; rfl
 refine pure_ (i := 4) (N := some 14) (v := ?_) (a' := ?_) #[false, true, false, false, true, false, false, false, false, false, false] rfl rfl (any_of HT_.out (by kernel_rfl)) (fun _ _ _ h => h) (Or.inl ⟨by rfl, ?_⟩) ?_ ?_
 rotate_left
 ·intro w'; go_simp; with_reducible rfl
 rotate_left
 ·simp only [Act.put, List.setIfInBounds_toArray, List.set_cons_zero, List.set_cons_succ, i64_w, i32_w]; rfl
 refine pure_ (i := 6) (N := some 16) (v := ?_) (a' := ?_) #[false, true, false, false, true, false, true, false, false, false, false] rfl rfl (any_of HT_.out (by kernel_rfl)) (fun _ _ _ h => h) (Or.inl ⟨by rfl, ?_⟩) ?_ ?_
 rotate_left
 ·intro w'; go_simp; with_reducible rfl
 rotate_left
 ·simp only [Act.put, List.setIfInBounds_toArray, List.set_cons_zero, List.set_cons_succ, i64_w, i32_w]; rfl
 refine take_ (i := 0) (N := some 10) (v := ?_) (a' := ?_) #[true, true, false, false, true, false, true, false, false, false, false] rfl rfl (take_ofW HT_.out HW_.out (by kernel_rfl)) (fun _ _ _ h => h) (Or.inl ⟨by rfl, ?_⟩) hHeld ?_ ?_
 rotate_left
 ·rintro w' ⟨s0, s1, s2, s3, s4, s5, s6, s7, s8, s9⟩; go_simp; with_reducible rfl
 rotate_left
 ·simp only [Act.put, List.setIfInBounds_toArray, List.set_cons_zero, List.set_cons_succ, i64_w, i32_w]; rfl
 refine take_ (i := 2) (N := some 12) (v := ?_) (a' := ?_) #[true, true, true, false, true, false, true, false, false, false, false] rfl rfl (take_ofW HT_.out HW_.out (by kernel_rfl)) (fun _ _ _ h => h) (Or.inl ⟨by rfl, ?_⟩) hHeld ?_ ?_
 rotate_left
 ·rintro w' ⟨s0, s1, s2, s3, s4, s5, s6, s7, s8, s9⟩; go_simp; with_reducible rfl
 rotate_left
 ·simp only [Act.put, List.setIfInBounds_toArray, List.set_cons_zero, List.set_cons_succ, i64_w, i32_w]; rfl
 refine take_ (i := 5) (N := some 15) (v := ?_) (a' := ?_) #[true, true, true, false, true, true, true, false, false, false, false] rfl rfl (take_ofW HT_.out HW_.out (by kernel_rfl)) (fun _ _ _ h => h) (Or.inl ⟨by rfl, ?_⟩) hHeld ?_ ?_
 rotate_left
 ·rintro w' ⟨s0, s1, s2, s3, s4, s5, s6, s7, s8, s9⟩; go_simp; with_reducible rfl
 rotate_left
 ·simp only [Act.put, List.setIfInBounds_toArray, List.set_cons_zero, List.set_cons_succ, i64_w, i32_w]; rfl
 refine take_ (i := 7) (N := some 17) (v := ?_) (a' := ?_) #[true, true, true, false, true, true, true, true, false, false, false] rfl rfl (take_ofW HT_.out HW_.out (by kernel_rfl)) (fun _ _ _ h => h) (Or.inl ⟨by rfl, ?_⟩) hHeld ?_ ?_
 rotate_left
 ·rintro w' ⟨s0, s1, s2, s3, s4, s5, s6, s7, s8, s9⟩; go_simp; with_reducible rfl
 rotate_left
 ·simp only [Act.put, List.setIfInBounds_toArray, List.set_cons_zero, List.set_cons_succ, i64_w, i32_w]; rfl
 refine pure_ (i := 8) (N := some 18) (v := ?_) (a' := ?_) #[true, true, true, false, true, true, true, true, true, false, false] rfl rfl (any_of HT_.out (by kernel_rfl)) (fun _ _ _ h => h) (Or.inl ⟨by rfl, ?_⟩) ?_ ?_
 rotate_left
 ·intro w'; go_simp; with_reducible rfl
 rotate_left
 ·simp only [Act.put, List.setIfInBounds_toArray, List.set_cons_zero, List.set_cons_succ, i64_w, i32_w]; rfl
 refine one_ (i := 3) (N := some 13) #[true, true, true, true, true, true, true, true, true, false, false] rfl rfl (one_of HT_.out (by kernel_rfl)) (by decide) (fun K hK => ?_)
 refine goes_ Try.func63 (by kernel_rfl) rfl #[.agg #[.int .i64 a0_0, .int .i64 a0_1, .int .i64 a0_2, .int .i64 a0_3, .int .i64 a0_4], .int .i64 a2_1] (by rfl) rfl rfl (by (try simp only [List.map_toArray, List.map_cons, List.map_nil]); first | done | rfl | (simp only [List.length_drop, List.length_take]; rfl)) ?_
 with_reducible refine (impl_worst.calls k a0_0 a0_1 a0_2 a0_3 a0_4 a2_1 t324 _ A4.out).mono ?_
 rintro e w11 ⟨rfl, hb⟩
 refine ⟨_, rfl, ?_⟩
 have n0_ := MK (blk_below (by (with_reducible repeat (first | refine bN ?_ _ | refine bD ?_ | refine bA ?_ _)); exact BK320.out) hb)
 have n1_ := MK (blk_below (by (with_reducible repeat (first | refine bN ?_ _ | refine bD ?_ | refine bA ?_ _)); exact BK321.out) hb)
 have n2_ := MK (blk_below (by (with_reducible repeat (first | refine bN ?_ _ | refine bD ?_ | refine bA ?_ _)); exact BK322.out) hb)
 have n3_ := MK (blk_below (by (with_reducible repeat (first | refine bN ?_ _ | refine bD ?_ | refine bA ?_ _)); exact BK323.out) hb)
 have n4_ := MK (below_step (by repeat (first | (with_reducible first | exact HB.out | apply lA | apply lN | apply lD | refine lS ?_ GE320.out | refine lS ?_ GE321.out | refine lS ?_ GE322.out | refine lS ?_ GE323.out) | exact HB.out)) hb)
 clear BK320
 clear BK321
 clear BK322
 clear BK323
 clear HB
 have BK320 := n0_
 have BK321 := n1_
 have BK322 := n2_
 have BK323 := n3_
 have HB := n4_
 clear n0_ n1_ n2_ n3_ n4_
 (try clear hb)
 (try clear hb2)
 (try clear hk)
 (try clear hi)
 refine hK.out _ _ ⟨(blk_cell BK320.out 0).trans rfl, (blk_cell BK320.out 1).trans rfl, (blk_cell BK320.out 2).trans rfl, (blk_cell BK320.out 3).trans rfl, (blk_cell BK320.out 4).trans rfl, (blk_cell BK322.out 0).trans rfl, (blk_cell BK322.out 1).trans rfl, (blk_cell BK322.out 2).trans rfl, (blk_cell BK322.out 3).trans rfl, (blk_cell BK322.out 4).trans rfl⟩ (fun hHeld => ?_)
 clear hK K
 refine norm_ (a' := ?_) ?_ ?_
 rotate_left
 ·show Act.put _ (some 13) _ = _; simp only [Act.put, List.setIfInBounds_toArray, List.set_cons_zero, List.set_cons_succ, i64_w, i32_w]; rfl
 refine pure_ (i := 9) (N := some 19) (v := ?_) (a' := ?_) #[true, true, true, true, true, true, true, true, true, true, false] rfl rfl (any_of HT_.out (by kernel_rfl)) (fun _ _ _ h => h) (Or.inl ⟨by rfl, ?_⟩) ?_ ?_
 rotate_left
 ·intro w'; go_simp; with_reducible rfl
 rotate_left
 ·simp only [Act.put, List.setIfInBounds_toArray, List.set_cons_zero, List.set_cons_succ, i64_w, i32_w]; rfl
 refine pure_ (i := 10) (N := some 7) (v := ?_) (a' := ?_) #[true, true, true, true, true, true, true, true, true, true, true] rfl rfl (any_of HT_.out (by kernel_rfl)) (fun _ _ _ h => h) (Or.inl ⟨by rfl, ?_⟩) ?_ ?_
 rotate_left
 ·intro w'; go_simp; with_reducible rfl
 rotate_left
 ·simp only [Act.put, List.setIfInBounds_toArray, List.set_cons_zero, List.set_cons_succ, i64_w, i32_w]; rfl
 refine done_ (done_of HT_.out (by kernel_rfl)) ?_
 have hnb12 := NB322_320.out
 have hnc12 := NB320_322.out
 have hnb13 := NB322_321.out
 have hnc13 := NB321_322.out
 have hnb14 := NB322_323.out
 have hnc14 := NB323_322.out
 obtain ⟨hcz15_0, hcz15_1, hcz15_2, hcz15_3, hcz15_4⟩ := bc5 BK322.out
 obtain ⟨hfz15_0, hfz15_1, hfz15_2, hfz15_3, hfz15_4⟩ := bf5 BK322.out
 go_upto_if 28 with (first | ((with_reducible refine gate_dst (N := 8) rfl ?_); refine box_event ?hg (N := 8) ?hd (cs := #[.bool false, .int .i64 0, .int .i64 0, .int .i64 0, .bool false, .bool false]) (t := 52) ?hr ?_; (case hd => rfl); (case hg => rfl); (case hr => first | (go_simp; done) | (go_simp; rfl)); intro gb325 hg w16 hbox hb; have n0_ := MK (blk_below (by (with_reducible repeat (first | refine bN ?_ _ | refine bD ?_ | refine bA ?_ _)); exact BK320.out) hb); have n1_ := MK (blk_below (by (with_reducible repeat (first | refine bN ?_ _ | refine bD ?_ | refine bA ?_ _)); exact BK321.out) hb); have n2_ := MK (blk_below (by (with_reducible repeat (first | refine bN ?_ _ | refine bD ?_ | refine bA ?_ _)); exact BK322.out) hb); have n3_ := MK (blk_below (by (with_reducible repeat (first | refine bN ?_ _ | refine bD ?_ | refine bA ?_ _)); exact BK323.out) hb); have n4_ := MK (below_step (by repeat (first | (with_reducible first | exact HB.out | apply lA | apply lN | apply lD | refine lS ?_ GE320.out | refine lS ?_ GE321.out | refine lS ?_ GE322.out | refine lS ?_ GE323.out) | exact HB.out)) hb); have n5_ := MK (hbox); have n6_ := MK ((by rw [hg]; exact (below_size (by repeat (first | (with_reducible first | exact HB.out | apply lA | apply lN | apply lD | refine lS ?_ GE320.out | refine lS ?_ GE321.out | refine lS ?_ GE322.out | refine lS ?_ GE323.out) | exact HB.out))) : w.heap.size ≤ gb325)); have n7_ := MK ((by rw [hg]; exact (below_size (by repeat (first | (with_reducible first | exact HB.out | apply lA | apply lN | apply lD | refine lS ?_ GE320.out | refine lS ?_ GE321.out | refine lS ?_ GE322.out | refine lS ?_ GE323.out) | exact HB.out))) : w.heap.size ≤ gb325)); have n8_ := MK ((by rw [hg]; exact Nat.ne_of_lt (blk_lt (by (with_reducible repeat (first | refine bN ?_ _ | refine bD ?_ | refine bA ?_ _)); exact BK320.out)) : gb320 ≠ gb325)); have n9_ := MK ((by rw [hg]; exact Nat.ne_of_gt (blk_lt (by (with_reducible repeat (first | refine bN ?_ _ | refine bD ?_ | refine bA ?_ _)); exact BK320.out)) : gb325 ≠ gb320)); have n10_ := MK ((by rw [hg]; exact Nat.ne_of_lt (blk_lt (by (with_reducible repeat (first | refine bN ?_ _ | refine bD ?_ | refine bA ?_ _)); exact BK321.out)) : gb321 ≠ gb325)); have n11_ := MK ((by rw [hg]; exact Nat.ne_of_gt (blk_lt (by (with_reducible repeat (first | refine bN ?_ _ | refine bD ?_ | refine bA ?_ _)); exact BK321.out)) : gb325 ≠ gb321)); have n12_ := MK ((by rw [hg]; exact Nat.ne_of_lt (blk_lt (by (with_reducible repeat (first | refine bN ?_ _ | refine bD ?_ | refine bA ?_ _)); exact BK322.out)) : gb322 ≠ gb325)); have n13_ := MK ((by rw [hg]; exact Nat.ne_of_gt (blk_lt (by (with_reducible repeat (first | refine bN ?_ _ | refine bD ?_ | refine bA ?_ _)); exact BK322.out)) : gb325 ≠ gb322)); have n14_ := MK ((by rw [hg]; exact Nat.ne_of_lt (blk_lt (by (with_reducible repeat (first | refine bN ?_ _ | refine bD ?_ | refine bA ?_ _)); exact BK323.out)) : gb323 ≠ gb325)); have n15_ := MK ((by rw [hg]; exact Nat.ne_of_gt (blk_lt (by (with_reducible repeat (first | refine bN ?_ _ | refine bD ?_ | refine bA ?_ _)); exact BK323.out)) : gb325 ≠ gb323)); clear BK320; clear BK321; clear BK322; clear BK323; clear HB; have BK320 := n0_; have BK321 := n1_; have BK322 := n2_; have BK323 := n3_; have HB := n4_; have BK325 := n5_; have GW325 := n6_; have GE325 := n7_; have NB320_325 := n8_; have NB325_320 := n9_; have NB321_325 := n10_; have NB325_321 := n11_; have NB322_325 := n12_; have NB325_322 := n13_; have NB323_325 := n14_; have NB325_323 := n15_; clear n0_ n1_ n2_ n3_ n4_ n5_ n6_ n7_ n8_ n9_ n10_ n11_ n12_ n13_ n14_ n15_; clear hb hbox hg; have hnb17 := NB325_320.out; have hnc17 := NB320_325.out; have hnb18 := NB325_321.out; have hnc18 := NB321_325.out; have hnb19 := NB325_322.out; have hnc19 := NB322_325.out; have hnb20 := NB325_323.out; have hnc20 := NB323_325.out; obtain ⟨hcz21_0, hcz21_1, hcz21_2, hcz21_3, hcz21_4, hcz21_5⟩ := bc6 BK325.out; obtain ⟨hfz21_0, hfz21_1, hfz21_2, hfz21_3, hfz21_4, hfz21_5⟩ := bf6 BK325.out; obtain ⟨hcz22_0, hcz22_1, hcz22_2, hcz22_3, hcz22_4⟩ := bc5 BK322.out; obtain ⟨hfz22_0, hfz22_1, hfz22_2, hfz22_3, hfz22_4⟩ := bf5 BK322.out; have hnb23 := NB321_320.out; have hnc23 := NB320_321.out; have hnb24 := NB321_323.out; have hnc24 := NB323_321.out; obtain ⟨hcz25_0, hcz25_1⟩ := bc2 BK321.out; obtain ⟨hfz25_0, hfz25_1⟩ := bf2 BK321.out))
 (try simp only [Act.put, List.setIfInBounds_toArray, List.set_cons_zero, List.set_cons_succ])
 go_cut [] (fun wc => ∃ (kq : Nat) (x326004_4 : Bool) (x326005_4 : Bool), Aside0 (impl_tick.j0 kq (decide (t324 ≤ (wrap64 (a2_2 - a2_0)))) a0_0 a0_1 a0_2 a0_3 a0_4 a1_0 a1_1 a2_0 a2_1 a2_2 a2_3 a2_4 true 0 a2_2 0 x326004_4 x326005_4 = some (r1, r2, r3, r4, r5, r6)) ∧ Aside0 (kq ≤ k) ∧ Aside0 (wc.heap[gb320]? = some (.cells #[.int .i64 a0_0, .int .i64 a0_1, .int .i64 a0_2, .int .i64 a0_3, .int .i64 a0_4] 32 (0, 0))) ∧ Aside0 (wc.heap[gb321]? = some (.cells #[.int .i64 a1_0, .int .i64 a1_1] 26 (0, 0))) ∧ Aside0 (wc.heap[gb322]? = some (.cells #[.int .i64 a2_0, .int .i64 a2_1, .int .i64 a2_2, .int .i64 a2_3, .bool a2_4] 38 (0, 0))) ∧ Aside0 (wc.heap[gb323]? = some (.cells #[.bool false, .int .i64 0, .int .i64 0, .int .i64 0, .bool false, .bool false] 52 (0, 0))) ∧ Aside0 (wc.heap[gb325]? = some (.cells #[.bool true, .int .i64 0, .int .i64 a2_2, .int .i64 0, .bool x326004_4, .bool x326005_4] 52 (0, 0))) ∧ Aside0 (Below w.heap.size w wc))
 case first =>
  have H := HC5.out
  clear HC5
  by_cases c26 : a2_2 = a1_1
  ·rw [if_pos c26] at H
   have c26b0 : (a2_2 == a1_1) = true := beq_iff_eq.mpr c26
   have c26b1 : (a2_2 != a1_1) = false := bne_eq_false_iff_eq.mpr c26
   clear c26
   (first | rw [c26b0] | (simp only [i64_w, i32_w]; rw [c26b0]) | rw [c26b1] | skip)
   have H' := MK H
   clear H
   go_wp2
   go_meet
   case rel => exact ⟨_, (false), (false), H', ⟨by first | omega | exact Nat.le_refl _⟩, ⟨by (with_reducible repeat (first | refine bN ?_ _ | refine bD ?_ | refine bA ?_ _)); refine blk_far ?_ NB320_325.out _; (with_reducible repeat (first | refine bN ?_ _ | refine bD ?_ | refine bA ?_ _)); refine blk_far ?_ NB320_325.out _; (with_reducible repeat (first | refine bN ?_ _ | refine bD ?_ | refine bA ?_ _)); refine blk_far ?_ NB320_325.out _; (with_reducible repeat (first | refine bN ?_ _ | refine bD ?_ | refine bA ?_ _)); refine blk_far ?_ NB320_325.out _; (with_reducible repeat (first | refine bN ?_ _ | refine bD ?_ | refine bA ?_ _)); refine blk_far ?_ NB320_325.out _; (with_reducible repeat (first | refine bN ?_ _ | refine bD ?_ | refine bA ?_ _)); refine blk_far ?_ NB320_325.out _; (with_reducible repeat (first | refine bN ?_ _ | refine bD ?_ | refine bA ?_ _)); exact BK320.out⟩, ⟨by (with_reducible repeat (first | refine bN ?_ _ | refine bD ?_ | refine bA ?_ _)); refine blk_far ?_ NB321_325.out _; (with_reducible repeat (first | refine bN ?_ _ | refine bD ?_ | refine bA ?_ _)); refine blk_far ?_ NB321_325.out _; (with_reducible repeat (first | refine bN ?_ _ | refine bD ?_ | refine bA ?_ _)); refine blk_far ?_ NB321_325.out _; (with_reducible repeat (first | refine bN ?_ _ | refine bD ?_ | refine bA ?_ _)); refine blk_far ?_ NB321_325.out _; (with_reducible repeat (first | refine bN ?_ _ | refine bD ?_ | refine bA ?_ _)); refine blk_far ?_ NB321_325.out _; (with_reducible repeat (first | refine bN ?_ _ | refine bD ?_ | refine bA ?_ _)); refine blk_far ?_ NB321_325.out _; (with_reducible repeat (first | refine bN ?_ _ | refine bD ?_ | refine bA ?_ _)); exact BK321.out⟩, ⟨by (with_reducible repeat (first | refine bN ?_ _ | refine bD ?_ | refine bA ?_ _)); refine blk_far ?_ NB322_325.out _; (with_reducible repeat (first | refine bN ?_ _ | refine bD ?_ | refine bA ?_ _)); refine blk_far ?_ NB322_325.out _; (with_reducible repeat (first | refine bN ?_ _ | refine bD ?_ | refine bA ?_ _)); refine blk_far ?_ NB322_325.out _; (with_reducible repeat (first | refine bN ?_ _ | refine bD ?_ | refine bA ?_ _)); refine blk_far ?_ NB322_325.out _; (with_reducible repeat (first | refine bN ?_ _ | refine bD ?_ | refine bA ?_ _)); refine blk_far ?_ NB322_325.out _; (with_reducible repeat (first | refine bN ?_ _ | refine bD ?_ | refine bA ?_ _)); refine blk_far ?_ NB322_325.out _; (with_reducible repeat (first | refine bN ?_ _ | refine bD ?_ | refine bA ?_ _)); exact BK322.out⟩, ⟨by (with_reducible repeat (first | refine bN ?_ _ | refine bD ?_ | refine bA ?_ _)); refine blk_far ?_ NB323_325.out _; (with_reducible repeat (first | refine bN ?_ _ | refine bD ?_ | refine bA ?_ _)); refine blk_far ?_ NB323_325.out _; (with_reducible repeat (first | refine bN ?_ _ | refine bD ?_ | refine bA ?_ _)); refine blk_far ?_ NB323_325.out _; (with_reducible repeat (first | refine bN ?_ _ | refine bD ?_ | refine bA ?_ _)); refine blk_far ?_ NB323_325.out _; (with_reducible repeat (first | refine bN ?_ _ | refine bD ?_ | refine bA ?_ _)); refine blk_far ?_ NB323_325.out _; (with_reducible repeat (first | refine bN ?_ _ | refine bD ?_ | refine bA ?_ _)); refine blk_far ?_ NB323_325.out _; (with_reducible repeat (first | refine bN ?_ _ | refine bD ?_ | refine bA ?_ _)); exact BK323.out⟩, ⟨by (with_reducible repeat (first | refine bN ?_ _ | refine bD ?_ | refine bA ?_ _)); refine blk_put (cs := #[.bool true, .int .i64 0, .int .i64 a2_2, .int .i64 0, .bool false, .bool false]) ?_ 5 _ rfl; (with_reducible repeat (first | refine bN ?_ _ | refine bD ?_ | refine bA ?_ _)); refine blk_put (cs := #[.bool true, .int .i64 0, .int .i64 a2_2, .int .i64 0, .bool false, .bool false]) ?_ 4 _ rfl; (with_reducible repeat (first | refine bN ?_ _ | refine bD ?_ | refine bA ?_ _)); refine blk_put (cs := #[.bool true, .int .i64 0, .int .i64 a2_2, .int .i64 0, .bool false, .bool false]) ?_ 3 _ rfl; (with_reducible repeat (first | refine bN ?_ _ | refine bD ?_ | refine bA ?_ _)); refine blk_put (cs := #[.bool true, .int .i64 0, .int .i64 0, .int .i64 0, .bool false, .bool false]) ?_ 2 _ rfl; (with_reducible repeat (first | refine bN ?_ _ | refine bD ?_ | refine bA ?_ _)); refine blk_put (cs := #[.bool true, .int .i64 0, .int .i64 0, .int .i64 0, .bool false, .bool false]) ?_ 1 _ rfl; (with_reducible repeat (first | refine bN ?_ _ | refine bD ?_ | refine bA ?_ _)); refine blk_put (cs := #[.bool false, .int .i64 0, .int .i64 0, .int .i64 0, .bool false, .bool false]) ?_ 0 _ rfl; (with_reducible repeat (first | refine bN ?_ _ | refine bD ?_ | refine bA ?_ _)); exact BK325.out⟩, ⟨by repeat (first | (with_reducible first | exact HB.out | apply lA | apply lN | apply lD | refine lS ?_ GE320.out | refine lS ?_ GE321.out | refine lS ?_ GE322.out | refine lS ?_ GE323.out | refine lS ?_ GE325.out) | exact HB.out)⟩⟩
  ·rw [if_neg c26] at H
   have c26b0 : (a2_2 == a1_1) = false := beq_eq_false_iff_ne.mpr c26
   have c26b1 : (a2_2 != a1_1) = true := bne_iff_ne.mpr c26
   (first | rw [c26b0] | (simp only [i64_w, i32_w]; rw [c26b0]) | rw [c26b1] | skip)
   by_cases c27 : a2_2 > a1_1
   ·rw [if_pos c27] at H
    have c27b0 : decide (a1_1 < a2_2) = true := decide_eq_true c27
    clear c27
    have H' := MK H
    clear H
    have hnb28 := NB325_320.out
    have hnc28 := NB320_325.out
    have hnb29 := NB325_321.out
    have hnc29 := NB321_325.out
    have hnb30 := NB325_322.out
    have hnc30 := NB322_325.out
    have hnb31 := NB325_323.out
    have hnc31 := NB323_325.out
    obtain ⟨hcz32_0, hcz32_1, hcz32_2, hcz32_3, hcz32_4, hcz32_5⟩ := bc6 BK325.out
    obtain ⟨hfz32_0, hfz32_1, hfz32_2, hfz32_3, hfz32_4, hfz32_5⟩ := bf6 BK325.out
    have hnb33 := NB322_320.out
    have hnc33 := NB320_322.out
    have hnb34 := NB322_321.out
    have hnc34 := NB321_322.out
    have hnb35 := NB322_323.out
    have hnc35 := NB323_322.out
    obtain ⟨hcz36_0, hcz36_1, hcz36_2, hcz36_3, hcz36_4⟩ := bc5 BK322.out
    obtain ⟨hfz36_0, hfz36_1, hfz36_2, hfz36_3, hfz36_4⟩ := bf5 BK322.out
    have hnb37 := NB321_320.out
    have hnc37 := NB320_321.out
    have hnb38 := NB321_323.out
    have hnc38 := NB323_321.out
    obtain ⟨hcz39_0, hcz39_1⟩ := bc2 BK321.out
    obtain ⟨hfz39_0, hfz39_1⟩ := bf2 BK321.out
    go_wp2
    go_meet
    case rel => exact ⟨_, (true), (true), H', ⟨by first | omega | exact Nat.le_refl _⟩, ⟨by (with_reducible repeat (first | refine bN ?_ _ | refine bD ?_ | refine bA ?_ _)); refine blk_far ?_ NB320_325.out _; (with_reducible repeat (first | refine bN ?_ _ | refine bD ?_ | refine bA ?_ _)); refine blk_far ?_ NB320_325.out _; (with_reducible repeat (first | refine bN ?_ _ | refine bD ?_ | refine bA ?_ _)); refine blk_far ?_ NB320_325.out _; (with_reducible repeat (first | refine bN ?_ _ | refine bD ?_ | refine bA ?_ _)); refine blk_far ?_ NB320_325.out _; (with_reducible repeat (first | refine bN ?_ _ | refine bD ?_ | refine bA ?_ _)); refine blk_far ?_ NB320_325.out _; (with_reducible repeat (first | refine bN ?_ _ | refine bD ?_ | refine bA ?_ _)); refine blk_far ?_ NB320_325.out _; (with_reducible repeat (first | refine bN ?_ _ | refine bD ?_ | refine bA ?_ _)); refine blk_far ?_ NB320_325.out _; (with_reducible repeat (first | refine bN ?_ _ | refine bD ?_ | refine bA ?_ _)); refine blk_far ?_ NB320_325.out _; (with_reducible repeat (first | refine bN ?_ _ | refine bD ?_ | refine bA ?_ _)); exact BK320.out⟩, ⟨by (with_reducible repeat (first | refine bN ?_ _ | refine bD ?_ | refine bA ?_ _)); refine blk_far ?_ NB321_325.out _; (with_reducible repeat (first | refine bN ?_ _ | refine bD ?_ | refine bA ?_ _)); refine blk_far ?_ NB321_325.out _; (with_reducible repeat (first | refine bN ?_ _ | refine bD ?_ | refine bA ?_ _)); refine blk_far ?_ NB321_325.out _; (with_reducible repeat (first | refine bN ?_ _ | refine bD ?_ | refine bA ?_ _)); refine blk_far ?_ NB321_325.out _; (with_reducible repeat (first | refine bN ?_ _ | refine bD ?_ | refine bA ?_ _)); refine blk_far ?_ NB321_325.out _; (with_reducible repeat (first | refine bN ?_ _ | refine bD ?_ | refine bA ?_ _)); refine blk_far ?_ NB321_325.out _; (with_reducible repeat (first | refine bN ?_ _ | refine bD ?_ | refine bA ?_ _)); refine blk_far ?_ NB321_325.out _; (with_reducible repeat (first | refine bN ?_ _ | refine bD ?_ | refine bA ?_ _)); refine blk_far ?_ NB321_325.out _; (with_reducible repeat (first | refine bN ?_ _ | refine bD ?_ | refine bA ?_ _)); exact BK321.out⟩, ⟨by (with_reducible repeat (first | refine bN ?_ _ | refine bD ?_ | refine bA ?_ _)); refine blk_far ?_ NB322_325.out _; (with_reducible repeat (first | refine bN ?_ _ | refine bD ?_ | refine bA ?_ _)); refine blk_far ?_ NB322_325.out _; (with_reducible repeat (first | refine bN ?_ _ | refine bD ?_ | refine bA ?_ _)); refine blk_far ?_ NB322_325.out _; (with_reducible repeat (first | refine bN ?_ _ | refine bD ?_ | refine bA ?_ _)); refine blk_far ?_ NB322_325.out _; (with_reducible repeat (first | refine bN ?_ _ | refine bD ?_ | refine bA ?_ _)); refine blk_far ?_ NB322_325.out _; (with_reducible repeat (first | refine bN ?_ _ | refine bD ?_ | refine bA ?_ _)); refine blk_far ?_ NB322_325.out _; (with_reducible repeat (first | refine bN ?_ _ | refine bD ?_ | refine bA ?_ _)); refine blk_far ?_ NB322_325.out _; (with_reducible repeat (first | refine bN ?_ _ | refine bD ?_ | refine bA ?_ _)); refine blk_far ?_ NB322_325.out _; (with_reducible repeat (first | refine bN ?_ _ | refine bD ?_ | refine bA ?_ _)); exact BK322.out⟩, ⟨by (with_reducible repeat (first | refine bN ?_ _ | refine bD ?_ | refine bA ?_ _)); refine blk_far ?_ NB323_325.out _; (with_reducible repeat (first | refine bN ?_ _ | refine bD ?_ | refine bA ?_ _)); refine blk_far ?_ NB323_325.out _; (with_reducible repeat (first | refine bN ?_ _ | refine bD ?_ | refine bA ?_ _)); refine blk_far ?_ NB323_325.out _; (with_reducible repeat (first | refine bN ?_ _ | refine bD ?_ | refine bA ?_ _)); refine blk_far ?_ NB323_325.out _; (with_reducible repeat (first | refine bN ?_ _ | refine bD ?_ | refine bA ?_ _)); refine blk_far ?_ NB323_325.out _; (with_reducible repeat (first | refine bN ?_ _ | refine bD ?_ | refine bA ?_ _)); refine blk_far ?_ NB323_325.out _; (with_reducible repeat (first | refine bN ?_ _ | refine bD ?_ | refine bA ?_ _)); refine blk_far ?_ NB323_325.out _; (with_reducible repeat (first | refine bN ?_ _ | refine bD ?_ | refine bA ?_ _)); refine blk_far ?_ NB323_325.out _; (with_reducible repeat (first | refine bN ?_ _ | refine bD ?_ | refine bA ?_ _)); exact BK323.out⟩, ⟨by (with_reducible repeat (first | refine bN ?_ _ | refine bD ?_ | refine bA ?_ _)); refine blk_put (cs := #[.bool true, .int .i64 0, .int .i64 a2_2, .int .i64 0, .bool false, .bool true]) ?_ 4 _ rfl; (with_reducible repeat (first | refine bN ?_ _ | refine bD ?_ | refine bA ?_ _)); refine blk_put (cs := #[.bool true, .int .i64 0, .int .i64 a2_2, .int .i64 0, .bool false, .bool false]) ?_ 5 _ rfl; (with_reducible repeat (first | refine bN ?_ _ | refine bD ?_ | refine bA ?_ _)); refine blk_put (cs := #[.bool true, .int .i64 0, .int .i64 a2_2, .int .i64 0, .bool false, .bool false]) ?_ 5 _ rfl; (with_reducible repeat (first | refine bN ?_ _ | refine bD ?_ | refine bA ?_ _)); refine blk_put (cs := #[.bool true, .int .i64 0, .int .i64 a2_2, .int .i64 0, .bool false, .bool false]) ?_ 4 _ rfl; (with_reducible repeat (first | refine bN ?_ _ | refine bD ?_ | refine bA ?_ _)); refine blk_put (cs := #[.bool true, .int .i64 0, .int .i64 a2_2, .int .i64 0, .bool false, .bool false]) ?_ 3 _ rfl; (with_reducible repeat (first | refine bN ?_ _ | refine bD ?_ | refine bA ?_ _)); refine blk_put (cs := #[.bool true, .int .i64 0, .int .i64 0, .int .i64 0, .bool false, .bool false]) ?_ 2 _ rfl; (with_reducible repeat (first | refine bN ?_ _ | refine bD ?_ | refine bA ?_ _)); refine blk_put (cs := #[.bool true, .int .i64 0, .int .i64 0, .int .i64 0, .bool false, .bool false]) ?_ 1 _ rfl; (with_reducible repeat (first | refine bN ?_ _ | refine bD ?_ | refine bA ?_ _)); refine blk_put (cs := #[.bool false, .int .i64 0, .int .i64 0, .int .i64 0, .bool false, .bool false]) ?_ 0 _ rfl; (with_reducible repeat (first | refine bN ?_ _ | refine bD ?_ | refine bA ?_ _)); exact BK325.out⟩, ⟨by repeat (first | (with_reducible first | exact HB.out | apply lA | apply lN | apply lD | refine lS ?_ GE320.out | refine lS ?_ GE321.out | refine lS ?_ GE322.out | refine lS ?_ GE323.out | refine lS ?_ GE325.out) | exact HB.out)⟩⟩
   ·rw [if_neg c27] at H
    have c27b0 : decide (a1_1 < a2_2) = false := decide_eq_false c27
    clear c27
    have H' := MK H
    clear H
    have hnb40 := NB325_320.out
    have hnc40 := NB320_325.out
    have hnb41 := NB325_321.out
    have hnc41 := NB321_325.out
    have hnb42 := NB325_322.out
    have hnc42 := NB322_325.out
    have hnb43 := NB325_323.out
    have hnc43 := NB323_325.out
    obtain ⟨hcz44_0, hcz44_1, hcz44_2, hcz44_3, hcz44_4, hcz44_5⟩ := bc6 BK325.out
    obtain ⟨hfz44_0, hfz44_1, hfz44_2, hfz44_3, hfz44_4, hfz44_5⟩ := bf6 BK325.out
    have hnb45 := NB322_320.out
    have hnc45 := NB320_322.out
    have hnb46 := NB322_321.out
    have hnc46 := NB321_322.out
    have hnb47 := NB322_323.out
    have hnc47 := NB323_322.out
    obtain ⟨hcz48_0, hcz48_1, hcz48_2, hcz48_3, hcz48_4⟩ := bc5 BK322.out
    obtain ⟨hfz48_0, hfz48_1, hfz48_2, hfz48_3, hfz48_4⟩ := bf5 BK322.out
    have hnb49 := NB321_320.out
    have hnc49 := NB320_321.out
    have hnb50 := NB321_323.out
    have hnc50 := NB323_321.out
    obtain ⟨hcz51_0, hcz51_1⟩ := bc2 BK321.out
    obtain ⟨hfz51_0, hfz51_1⟩ := bf2 BK321.out
    go_wp2
    go_meet
    case rel => exact ⟨_, (decide (t324 ≤ (wrap64 (a2_2 - a2_0)))), (true), H', ⟨by first | omega | exact Nat.le_refl _⟩, ⟨by (with_reducible repeat (first | refine bN ?_ _ | refine bD ?_ | refine bA ?_ _)); refine blk_far ?_ NB320_325.out _; (with_reducible repeat (first | refine bN ?_ _ | refine bD ?_ | refine bA ?_ _)); refine blk_far ?_ NB320_325.out _; (with_reducible repeat (first | refine bN ?_ _ | refine bD ?_ | refine bA ?_ _)); refine blk_far ?_ NB320_325.out _; (with_reducible repeat (first | refine bN ?_ _ | refine bD ?_ | refine bA ?_ _)); refine blk_far ?_ NB320_325.out _; (with_reducible repeat (first | refine bN ?_ _ | refine bD ?_ | refine bA ?_ _)); refine blk_far ?_ NB320_325.out _; (with_reducible repeat (first | refine bN ?_ _ | refine bD ?_ | refine bA ?_ _)); refine blk_far ?_ NB320_325.out _; (with_reducible repeat (first | refine bN ?_ _ | refine bD ?_ | refine bA ?_ _)); refine blk_far ?_ NB320_325.out _; (with_reducible repeat (first | refine bN ?_ _ | refine bD ?_ | refine bA ?_ _)); refine blk_far ?_ NB320_325.out _; (with_reducible repeat (first | refine bN ?_ _ | refine bD ?_ | refine bA ?_ _)); exact BK320.out⟩, ⟨by (with_reducible repeat (first | refine bN ?_ _ | refine bD ?_ | refine bA ?_ _)); refine blk_far ?_ NB321_325.out _; (with_reducible repeat (first | refine bN ?_ _ | refine bD ?_ | refine bA ?_ _)); refine blk_far ?_ NB321_325.out _; (with_reducible repeat (first | refine bN ?_ _ | refine bD ?_ | refine bA ?_ _)); refine blk_far ?_ NB321_325.out _; (with_reducible repeat (first | refine bN ?_ _ | refine bD ?_ | refine bA ?_ _)); refine blk_far ?_ NB321_325.out _; (with_reducible repeat (first | refine bN ?_ _ | refine bD ?_ | refine bA ?_ _)); refine blk_far ?_ NB321_325.out _; (with_reducible repeat (first | refine bN ?_ _ | refine bD ?_ | refine bA ?_ _)); refine blk_far ?_ NB321_325.out _; (with_reducible repeat (first | refine bN ?_ _ | refine bD ?_ | refine bA ?_ _)); refine blk_far ?_ NB321_325.out _; (with_reducible repeat (first | refine bN ?_ _ | refine bD ?_ | refine bA ?_ _)); refine blk_far ?_ NB321_325.out _; (with_reducible repeat (first | refine bN ?_ _ | refine bD ?_ | refine bA ?_ _)); exact BK321.out⟩, ⟨by (with_reducible repeat (first | refine bN ?_ _ | refine bD ?_ | refine bA ?_ _)); refine blk_far ?_ NB322_325.out _; (with_reducible repeat (first | refine bN ?_ _ | refine bD ?_ | refine bA ?_ _)); refine blk_far ?_ NB322_325.out _; (with_reducible repeat (first | refine bN ?_ _ | refine bD ?_ | refine bA ?_ _)); refine blk_far ?_ NB322_325.out _; (with_reducible repeat (first | refine bN ?_ _ | refine bD ?_ | refine bA ?_ _)); refine blk_far ?_ NB322_325.out _; (with_reducible repeat (first | refine bN ?_ _ | refine bD ?_ | refine bA ?_ _)); refine blk_far ?_ NB322_325.out _; (with_reducible repeat (first | refine bN ?_ _ | refine bD ?_ | refine bA ?_ _)); refine blk_far ?_ NB322_325.out _; (with_reducible repeat (first | refine bN ?_ _ | refine bD ?_ | refine bA ?_ _)); refine blk_far ?_ NB322_325.out _; (with_reducible repeat (first | refine bN ?_ _ | refine bD ?_ | refine bA ?_ _)); refine blk_far ?_ NB322_325.out _; (with_reducible repeat (first | refine bN ?_ _ | refine bD ?_ | refine bA ?_ _)); exact BK322.out⟩, ⟨by (with_reducible repeat (first | refine bN ?_ _ | refine bD ?_ | refine bA ?_ _)); refine blk_far ?_ NB323_325.out _; (with_reducible repeat (first | refine bN ?_ _ | refine bD ?_ | refine bA ?_ _)); refine blk_far ?_ NB323_325.out _; (with_reducible repeat (first | refine bN ?_ _ | refine bD ?_ | refine bA ?_ _)); refine blk_far ?_ NB323_325.out _; (with_reducible repeat (first | refine bN ?_ _ | refine bD ?_ | refine bA ?_ _)); refine blk_far ?_ NB323_325.out _; (with_reducible repeat (first | refine bN ?_ _ | refine bD ?_ | refine bA ?_ _)); refine blk_far ?_ NB323_325.out _; (with_reducible repeat (first | refine bN ?_ _ | refine bD ?_ | refine bA ?_ _)); refine blk_far ?_ NB323_325.out _; (with_reducible repeat (first | refine bN ?_ _ | refine bD ?_ | refine bA ?_ _)); refine blk_far ?_ NB323_325.out _; (with_reducible repeat (first | refine bN ?_ _ | refine bD ?_ | refine bA ?_ _)); refine blk_far ?_ NB323_325.out _; (with_reducible repeat (first | refine bN ?_ _ | refine bD ?_ | refine bA ?_ _)); exact BK323.out⟩, ⟨by (with_reducible repeat (first | refine bN ?_ _ | refine bD ?_ | refine bA ?_ _)); refine blk_put (cs := #[.bool true, .int .i64 0, .int .i64 a2_2, .int .i64 0, .bool false, .bool true]) ?_ 4 _ rfl; (with_reducible repeat (first | refine bN ?_ _ | refine bD ?_ | refine bA ?_ _)); refine blk_put (cs := #[.bool true, .int .i64 0, .int .i64 a2_2, .int .i64 0, .bool false, .bool false]) ?_ 5 _ rfl; (with_reducible repeat (first | refine bN ?_ _ | refine bD ?_ | refine bA ?_ _)); refine blk_put (cs := #[.bool true, .int .i64 0, .int .i64 a2_2, .int .i64 0, .bool false, .bool false]) ?_ 5 _ rfl; (with_reducible repeat (first | refine bN ?_ _ | refine bD ?_ | refine bA ?_ _)); refine blk_put (cs := #[.bool true, .int .i64 0, .int .i64 a2_2, .int .i64 0, .bool false, .bool false]) ?_ 4 _ rfl; (with_reducible repeat (first | refine bN ?_ _ | refine bD ?_ | refine bA ?_ _)); refine blk_put (cs := #[.bool true, .int .i64 0, .int .i64 a2_2, .int .i64 0, .bool false, .bool false]) ?_ 3 _ rfl; (with_reducible repeat (first | refine bN ?_ _ | refine bD ?_ | refine bA ?_ _)); refine blk_put (cs := #[.bool true, .int .i64 0, .int .i64 0, .int .i64 0, .bool false, .bool false]) ?_ 2 _ rfl; (with_reducible repeat (first | refine bN ?_ _ | refine bD ?_ | refine bA ?_ _)); refine blk_put (cs := #[.bool true, .int .i64 0, .int .i64 0, .int .i64 0, .bool false, .bool false]) ?_ 1 _ rfl; (with_reducible repeat (first | refine bN ?_ _ | refine bD ?_ | refine bA ?_ _)); refine blk_put (cs := #[.bool false, .int .i64 0, .int .i64 0, .int .i64 0, .bool false, .bool false]) ?_ 0 _ rfl; (with_reducible repeat (first | refine bN ?_ _ | refine bD ?_ | refine bA ?_ _)); exact BK325.out⟩, ⟨by repeat (first | (with_reducible first | exact HB.out | apply lA | apply lN | apply lD | refine lS ?_ GE320.out | refine lS ?_ GE321.out | refine lS ?_ GE322.out | refine lS ?_ GE323.out | refine lS ?_ GE325.out) | exact HB.out)⟩⟩
 case rest =>
  clear HC5
  (try clear hcz15_0); (try clear hcz15_1); (try clear hcz15_2); (try clear hcz15_3); (try clear hcz15_4); (try clear hcz21_0); (try clear hcz21_1); (try clear hcz21_2); (try clear hcz21_3); (try clear hcz21_4); (try clear hcz21_5); (try clear hcz22_0); (try clear hcz22_1); (try clear hcz22_2); (try clear hcz22_3); (try clear hcz22_4); (try clear hcz25_0); (try clear hcz25_1); (try clear hfz15_0); (try clear hfz15_1); (try clear hfz15_2); (try clear hfz15_3); (try clear hfz15_4); (try clear hfz21_0); (try clear hfz21_1); (try clear hfz21_2); (try clear hfz21_3); (try clear hfz21_4); (try clear hfz21_5); (try clear hfz22_0); (try clear hfz22_1); (try clear hfz22_2); (try clear hfz22_3); (try clear hfz22_4); (try clear hfz25_0); (try clear hfz25_1)
  obtain ⟨kq, x326004_4, x326005_4, HA, HJ4, BK320, BK321, BK322, BK323, BK325, HB⟩ := hcut
  cases kq with
  | zero => exact absurd HA.out (by simp [impl_tick.j0])
  | succ kj4 =>
   have H := HA.out
   clear HA
   simp only [impl_tick.j0] at H
   obtain ⟨ji52, hji52⟩ : ∃ j_ : Int, (mx 0 (wrap64 (a2_2 - a2_0))) = j_ := ⟨_, rfl⟩
   replace H : ((impl_Permitted.f a0_0 a0_1 a0_2 a0_3 a0_4 (ji52) a2_3).bind fun t326 => (if a1_0 = 3 then (if a2_1 = 0 then (if a2_4 = true then (impl_tick.j1 kj4 (decide (t324 ≤ (wrap64 (a2_2 - a2_0)))) t326 (!(decide (t324 ≤ (wrap64 (a2_2 - a2_0))))) a1_0 a1_1 a2_0 a2_1 a2_2 a2_3 a2_4 true 0 a2_2 0 x326004_4 x326005_4) else (impl_tick.j1 kj4 (decide (t324 ≤ (wrap64 (a2_2 - a2_0)))) t326 (!false) a1_0 a1_1 a2_0 a2_1 a2_2 a2_3 a2_4 true 0 a2_2 0 x326004_4 x326005_4)) else (impl_tick.j1 kj4 (decide (t324 ≤ (wrap64 (a2_2 - a2_0)))) t326 (!false) a1_0 a1_1 a2_0 a2_1 a2_2 a2_3 a2_4 true 0 a2_2 0 x326004_4 x326005_4)) else (impl_tick.j1 kj4 (decide (t324 ≤ (wrap64 (a2_2 - a2_0)))) t326 false a1_0 a1_1 a2_0 a2_1 a2_2 a2_3 a2_4 true 0 a2_2 0 x326004_4 x326005_4))) = some (r1, r2, r3, r4, r5, r6) := by first | (rw [hji52] at H; exact H) | (simp only [hji52] at H ⊢; exact H)
   have hji52_ : (if 0 < (wrap64 (a2_2 - a2_0)) then (wrap64 (a2_2 - a2_0)) else 0) = ji52 := hji52
   replace H := Option.bind_eq_some_iff.mp H
   obtain ⟨t326, A530, H⟩ := H
   replace H : (if a1_0 = 3 then (if a2_1 = 0 then (if a2_4 = true then (impl_tick.j1 kj4 (decide (t324 ≤ (wrap64 (a2_2 - a2_0)))) t326 (!(decide (t324 ≤ (wrap64 (a2_2 - a2_0))))) a1_0 a1_1 a2_0 a2_1 a2_2 a2_3 a2_4 true 0 a2_2 0 x326004_4 x326005_4) else (impl_tick.j1 kj4 (decide (t324 ≤ (wrap64 (a2_2 - a2_0)))) t326 (!false) a1_0 a1_1 a2_0 a2_1 a2_2 a2_3 a2_4 true 0 a2_2 0 x326004_4 x326005_4)) else (impl_tick.j1 kj4 (decide (t324 ≤ (wrap64 (a2_2 - a2_0)))) t326 (!false) a1_0 a1_1 a2_0 a2_1 a2_2 a2_3 a2_4 true 0 a2_2 0 x326004_4 x326005_4)) else (impl_tick.j1 kj4 (decide (t324 ≤ (wrap64 (a2_2 - a2_0)))) t326 false a1_0 a1_1 a2_0 a2_1 a2_2 a2_3 a2_4 true 0 a2_2 0 x326004_4 x326005_4)) = some (r1, r2, r3, r4, r5, r6) := H
   have A53 := MK A530
   clear A530
   have HC54 := MK H
   clear H
   have hnb55 := NB320_321.out
   have hnc55 := NB321_320.out
   have hnb56 := NB320_322.out
   have hnc56 := NB322_320.out
   have hnb57 := NB320_323.out
   have hnc57 := NB323_320.out
   have hnb58 := NB320_325.out
   have hnc58 := NB325_320.out
   obtain ⟨hcz59_0, hcz59_1, hcz59_2, hcz59_3, hcz59_4⟩ := bc5 BK320.out
   obtain ⟨hfz59_0, hfz59_1, hfz59_2, hfz59_3, hfz59_4⟩ := bf5 BK320.out
   have hnb60 := NB322_321.out
   have hnc60 := NB321_322.out
   have hnb61 := NB322_323.out
   have hnc61 := NB323_322.out
   have hnb62 := NB322_325.out
   have hnc62 := NB325_322.out
   obtain ⟨hcz63_0, hcz63_1, hcz63_2, hcz63_3, hcz63_4⟩ := bc5 BK322.out
   obtain ⟨hfz63_0, hfz63_1, hfz63_2, hfz63_3, hfz63_4⟩ := bf5 BK322.out
   go_upto_region 7 with (first | ((with_reducible refine gate_callee (f := 34) rfl ?_); refine goesL_ (some 48) rfl rfl Try.func34 (by kernel_rfl) rfl #[.agg #[.int .i64 a0_0, .int .i64 a0_1, .int .i64 a0_2, .int .i64 a0_3, .int .i64 a0_4], .int .i64 ji52, .int .i64 a2_3] rfl (by (try simp only [List.map_toArray, List.map_cons, List.map_nil]); first | done | (simp only [hji52]; rfl) | rfl | (simp only [List.length_drop, List.length_take]; rfl)) ?_; (with_reducible refine (impl_Permitted.calls a0_0 a0_1 a0_2 a0_3 a0_4 ji52 a2_3 t326 _ A53.out).mono ?_); rintro e w64 ⟨rfl, hb⟩; refine ⟨_, rfl, ?_⟩; have n0_ := MK (blk_below (by (with_reducible repeat (first | refine bN ?_ _ | refine bD ?_ | refine bA ?_ _)); exact BK320.out) hb); have n1_ := MK (blk_below (by (with_reducible repeat (first | refine bN ?_ _ | refine bD ?_ | refine bA ?_ _)); exact BK321.out) hb); have n2_ := MK (blk_below (by (with_reducible repeat (first | refine bN ?_ _ | refine bD ?_ | refine bA ?_ _)); exact BK322.out) hb); have n3_ := MK (blk_below (by (with_reducible repeat (first | refine bN ?_ _ | refine bD ?_ | refine bA ?_ _)); exact BK323.out) hb); have n4_ := MK (blk_below (by (with_reducible repeat (first | refine bN ?_ _ | refine bD ?_ | refine bA ?_ _)); exact BK325.out) hb); have n5_ := MK (below_step (by repeat (first | (with_reducible first | exact HB.out | apply lA | apply lN | apply lD | refine lS ?_ GE320.out | refine lS ?_ GE321.out | refine lS ?_ GE322.out | refine lS ?_ GE323.out | refine lS ?_ GE325.out) | exact HB.out)) hb); clear BK320; clear BK321; clear BK322; clear BK323; clear BK325; clear HB; have BK320 := n0_; have BK321 := n1_; have BK322 := n2_; have BK323 := n3_; have BK325 := n4_; have HB := n5_; clear n0_ n1_ n2_ n3_ n4_ n5_; (try clear hb); (try clear hb2); (try clear hk); (try clear hi)))
   (try simp only [Act.put, List.setIfInBounds_toArray, List.set_cons_zero, List.set_cons_succ])
   go_cut [49] (fun v49 wc => ∃ (kq : Nat) (x49_53 : Bool), v49 = .bool x49_53 ∧ Aside0 (impl_tick.j1 kq (decide (t324 ≤ (wrap64 (a2_2 - a2_0)))) t326 x49_53 a1_0 a1_1 a2_0 a2_1 a2_2 a2_3 a2_4 true 0 a2_2 0 x326004_4 x326005_4 = some (r1, r2, r3, r4, r5, r6)) ∧ Aside0 (kq ≤ kj4) ∧ Aside0 (wc.heap[gb320]? = some (.cells #[.int .i64 a0_0, .int .i64 a0_1, .int .i64 a0_2, .int .i64 a0_3, .int .i64 a0_4] 32 (0, 0))) ∧ Aside0 (wc.heap[gb321]? = some (.cells #[.int .i64 a1_0, .int .i64 a1_1] 26 (0, 0))) ∧ Aside0 (wc.heap[gb322]? = some (.cells #[.int .i64 a2_0, .int .i64 a2_1, .int .i64 a2_2, .int .i64 a2_3, .bool a2_4] 38 (0, 0))) ∧ Aside0 (wc.heap[gb323]? = some (.cells #[.bool false, .int .i64 0, .int .i64 0, .int .i64 0, .bool false, .bool false] 52 (0, 0))) ∧ Aside0 (wc.heap[gb325]? = some (.cells #[.bool true, .int .i64 0, .int .i64 a2_2, .int .i64 0, .bool x326004_4, .bool x326005_4] 52 (0, 0))) ∧ Aside0 (Below w.heap.size w wc))
   case first =>
    have H := HC54.out
    clear HC54
    by_cases c65 : a1_0 = 3
    ·rw [if_pos c65] at H
     have c65b0 : (a1_0 == 3) = true := beq_iff_eq.mpr c65
     have c65b1 : (a1_0 != 3) = false := bne_eq_false_iff_eq.mpr c65
     clear c65
     (first | rw [c65b0] | (simp only [i64_w, i32_w]; rw [c65b0]) | rw [c65b1] | skip)
     by_cases c66 : a2_1 = 0
     ·rw [if_pos c66] at H
      have c66b0 : (a2_1 == 0) = true := beq_iff_eq.mpr c66
      have c66b1 : (a2_1 != 0) = false := bne_eq_false_iff_eq.mpr c66
      clear c66
      by_cases c67 : a2_4 = true
      ·subst c67
       have H1 : (impl_tick.j1 kj4 (decide (t324 ≤ (wrap64 (a2_2 - a2_0)))) t326 (!(decide (t324 ≤ (wrap64 (a2_2 - a2_0))))) a1_0 a1_1 a2_0 a2_1 a2_2 a2_3 true true 0 a2_2 0 x326004_4 x326005_4) = some (r1, r2, r3, r4, r5, r6) := by rw [if_pos rfl] at H; exact H
       clear H
       have H := H1
       clear H1
       have H' := MK H
       clear H
       have hnb68 := NB321_320.out
       have hnc68 := NB320_321.out
       have hnb69 := NB321_322.out
       have hnc69 := NB322_321.out
       have hnb70 := NB321_323.out
       have hnc70 := NB323_321.out
       have hnb71 := NB321_325.out
       have hnc71 := NB325_321.out
       obtain ⟨hcz72_0, hcz72_1⟩ := bc2 BK321.out
       obtain ⟨hfz72_0, hfz72_1⟩ := bf2 BK321.out
       have hnb73 := NB322_320.out
       have hnc73 := NB320_322.out
       have hnb74 := NB322_323.out
       have hnc74 := NB323_322.out
       have hnb75 := NB322_325.out
       have hnc75 := NB325_322.out
       obtain ⟨hcz76_0, hcz76_1, hcz76_2, hcz76_3, hcz76_4⟩ := bc5 BK322.out
       obtain ⟨hfz76_0, hfz76_1, hfz76_2, hfz76_3, hfz76_4⟩ := bf5 BK322.out
       go_wp2
       go_meet
       case rel => exact ⟨_, (!(decide (t324 ≤ (wrap64 (a2_2 - a2_0))))), (by first | rfl | (simp; done) | (simp [*]; done)), H', ⟨by have := HJ4.out; first | omega | exact Nat.le_refl _⟩, ⟨by (with_reducible repeat (first | refine bN ?_ _ | refine bD ?_ | refine bA ?_ _)); exact BK320.out⟩, ⟨by (with_reducible repeat (first | refine bN ?_ _ | refine bD ?_ | refine bA ?_ _)); exact BK321.out⟩, ⟨by (with_reducible repeat (first | refine bN ?_ _ | refine bD ?_ | refine bA ?_ _)); exact BK322.out⟩, ⟨by (with_reducible repeat (first | refine bN ?_ _ | refine bD ?_ | refine bA ?_ _)); exact BK323.out⟩, ⟨by (with_reducible repeat (first | refine bN ?_ _ | refine bD ?_ | refine bA ?_ _)); exact BK325.out⟩, ⟨by repeat (first | (with_reducible first | exact HB.out | apply lA | apply lN | apply lD | refine lS ?_ GE320.out | refine lS ?_ GE321.out | refine lS ?_ GE322.out | refine lS ?_ GE323.out | refine lS ?_ GE325.out) | exact HB.out)⟩⟩
      ·replace c67 := Bool.eq_false_iff.mpr c67
       subst c67
       have H1 : (impl_tick.j1 kj4 (decide (t324 ≤ (wrap64 (a2_2 - a2_0)))) t326 (!false) a1_0 a1_1 a2_0 a2_1 a2_2 a2_3 false true 0 a2_2 0 x326004_4 x326005_4) = some (r1, r2, r3, r4, r5, r6) := by rw [if_neg (show ¬ (false = true) by decide)] at H; exact H
       clear H
       have H := H1
       clear H1
       have H' := MK H
       clear H
       have hnb77 := NB321_320.out
       have hnc77 := NB320_321.out
       have hnb78 := NB321_322.out
       have hnc78 := NB322_321.out
       have hnb79 := NB321_323.out
       have hnc79 := NB323_321.out
       have hnb80 := NB321_325.out
       have hnc80 := NB325_321.out
       obtain ⟨hcz81_0, hcz81_1⟩ := bc2 BK321.out
       obtain ⟨hfz81_0, hfz81_1⟩ := bf2 BK321.out
       have hnb82 := NB322_320.out
       have hnc82 := NB320_322.out
       have hnb83 := NB322_323.out
       have hnc83 := NB323_322.out
       have hnb84 := NB322_325.out
       have hnc84 := NB325_322.out
       obtain ⟨hcz85_0, hcz85_1, hcz85_2, hcz85_3, hcz85_4⟩ := bc5 BK322.out
       obtain ⟨hfz85_0, hfz85_1, hfz85_2, hfz85_3, hfz85_4⟩ := bf5 BK322.out
       go_wp2
       go_meet
       case rel => exact ⟨_, (!false), (by first | rfl | (simp; done) | (simp [*]; done)), H', ⟨by have := HJ4.out; first | omega | exact Nat.le_refl _⟩, ⟨by (with_reducible repeat (first | refine bN ?_ _ | refine bD ?_ | refine bA ?_ _)); exact BK320.out⟩, ⟨by (with_reducible repeat (first | refine bN ?_ _ | refine bD ?_ | refine bA ?_ _)); exact BK321.out⟩, ⟨by (with_reducible repeat (first | refine bN ?_ _ | refine bD ?_ | refine bA ?_ _)); exact BK322.out⟩, ⟨by (with_reducible repeat (first | refine bN ?_ _ | refine bD ?_ | refine bA ?_ _)); exact BK323.out⟩, ⟨by (with_reducible repeat (first | refine bN ?_ _ | refine bD ?_ | refine bA ?_ _)); exact BK325.out⟩, ⟨by repeat (first | (with_reducible first | exact HB.out | apply lA | apply lN | apply lD | refine lS ?_ GE320.out | refine lS ?_ GE321.out | refine lS ?_ GE322.out | refine lS ?_ GE323.out | refine lS ?_ GE325.out) | exact HB.out)⟩⟩
     ·rw [if_neg c66] at H
      have c66b0 : (a2_1 == 0) = false := beq_eq_false_iff_ne.mpr c66
      have c66b1 : (a2_1 != 0) = true := bne_iff_ne.mpr c66
      have H' := MK H
      clear H
      have hnb86 := NB321_320.out
      have hnc86 := NB320_321.out
      have hnb87 := NB321_322.out
      have hnc87 := NB322_321.out
      have hnb88 := NB321_323.out
      have hnc88 := NB323_321.out
      have hnb89 := NB321_325.out
      have hnc89 := NB325_321.out
      obtain ⟨hcz90_0, hcz90_1⟩ := bc2 BK321.out
      obtain ⟨hfz90_0, hfz90_1⟩ := bf2 BK321.out
      have hnb91 := NB322_320.out
      have hnc91 := NB320_322.out
      have hnb92 := NB322_323.out
      have hnc92 := NB323_322.out
      have hnb93 := NB322_325.out
      have hnc93 := NB325_322.out
      obtain ⟨hcz94_0, hcz94_1, hcz94_2, hcz94_3, hcz94_4⟩ := bc5 BK322.out
      obtain ⟨hfz94_0, hfz94_1, hfz94_2, hfz94_3, hfz94_4⟩ := bf5 BK322.out
      go_wp2
      go_meet
      case rel => exact ⟨_, (!false), (by first | rfl | (simp; done) | (simp [*]; done)), H', ⟨by have := HJ4.out; first | omega | exact Nat.le_refl _⟩, ⟨by (with_reducible repeat (first | refine bN ?_ _ | refine bD ?_ | refine bA ?_ _)); exact BK320.out⟩, ⟨by (with_reducible repeat (first | refine bN ?_ _ | refine bD ?_ | refine bA ?_ _)); exact BK321.out⟩, ⟨by (with_reducible repeat (first | refine bN ?_ _ | refine bD ?_ | refine bA ?_ _)); exact BK322.out⟩, ⟨by (with_reducible repeat (first | refine bN ?_ _ | refine bD ?_ | refine bA ?_ _)); exact BK323.out⟩, ⟨by (with_reducible repeat (first | refine bN ?_ _ | refine bD ?_ | refine bA ?_ _)); exact BK325.out⟩, ⟨by repeat (first | (with_reducible first | exact HB.out | apply lA | apply lN | apply lD | refine lS ?_ GE320.out | refine lS ?_ GE321.out | refine lS ?_ GE322.out | refine lS ?_ GE323.out | refine lS ?_ GE325.out) | exact HB.out)⟩⟩
    ·rw [if_neg c65] at H
     have c65b0 : (a1_0 == 3) = false := beq_eq_false_iff_ne.mpr c65
     have c65b1 : (a1_0 != 3) = true := bne_iff_ne.mpr c65
     (first | rw [c65b0] | (simp only [i64_w, i32_w]; rw [c65b0]) | rw [c65b1] | skip)
     have H' := MK H
     clear H
     have hnb95 := NB321_320.out
     have hnc95 := NB320_321.out
     have hnb96 := NB321_322.out
     have hnc96 := NB322_321.out
     have hnb97 := NB321_323.out
     have hnc97 := NB323_321.out
     have hnb98 := NB321_325.out
     have hnc98 := NB325_321.out
     obtain ⟨hcz99_0, hcz99_1⟩ := bc2 BK321.out
     obtain ⟨hfz99_0, hfz99_1⟩ := bf2 BK321.out
     go_wp2
     go_meet
     case rel => exact ⟨_, (false), (by first | rfl | (simp; done) | (simp [*]; done)), H', ⟨by have := HJ4.out; first | omega | exact Nat.le_refl _⟩, ⟨by (with_reducible repeat (first | refine bN ?_ _ | refine bD ?_ | refine bA ?_ _)); exact BK320.out⟩, ⟨by (with_reducible repeat (first | refine bN ?_ _ | refine bD ?_ | refine bA ?_ _)); exact BK321.out⟩, ⟨by (with_reducible repeat (first | refine bN ?_ _ | refine bD ?_ | refine bA ?_ _)); exact BK322.out⟩, ⟨by (with_reducible repeat (first | refine bN ?_ _ | refine bD ?_ | refine bA ?_ _)); exact BK323.out⟩, ⟨by (with_reducible repeat (first | refine bN ?_ _ | refine bD ?_ | refine bA ?_ _)); exact BK325.out⟩, ⟨by repeat (first | (with_reducible first | exact HB.out | apply lA | apply lN | apply lD | refine lS ?_ GE320.out | refine lS ?_ GE321.out | refine lS ?_ GE322.out | refine lS ?_ GE323.out | refine lS ?_ GE325.out) | exact HB.out)⟩⟩
   case rest =>
    clear HC54
    (try clear hcz15_0); (try clear hcz15_1); (try clear hcz15_2); (try clear hcz15_3); (try clear hcz15_4); (try clear hcz21_0); (try clear hcz21_1); (try clear hcz21_2); (try clear hcz21_3); (try clear hcz21_4); (try clear hcz21_5); (try clear hcz22_0); (try clear hcz22_1); (try clear hcz22_2); (try clear hcz22_3); (try clear hcz22_4); (try clear hcz25_0); (try clear hcz25_1); (try clear hcz59_0); (try clear hcz59_1); (try clear hcz59_2); (try clear hcz59_3); (try clear hcz59_4); (try clear hcz63_0); (try clear hcz63_1); (try clear hcz63_2); (try clear hcz63_3); (try clear hcz63_4); (try clear hfz15_0); (try clear hfz15_1); (try clear hfz15_2); (try clear hfz15_3); (try clear hfz15_4); (try clear hfz21_0); (try clear hfz21_1); (try clear hfz21_2); (try clear hfz21_3); (try clear hfz21_4); (try clear hfz21_5); (try clear hfz22_0); (try clear hfz22_1); (try clear hfz22_2); (try clear hfz22_3); (try clear hfz22_4); (try clear hfz25_0); (try clear hfz25_1); (try clear hfz59_0); (try clear hfz59_1); (try clear hfz59_2); (try clear hfz59_3); (try clear hfz59_4); (try clear hfz63_0); (try clear hfz63_1); (try clear hfz63_2); (try clear hfz63_3); (try clear hfz63_4)
    obtain ⟨kq, x49_53, rfl, HA, HJ53, BK320, BK321, BK322, BK323, BK325, HB⟩ := hcut
    cases kq with
    | zero => exact absurd HA.out (by simp [impl_tick.j1])
    | succ kj53 =>
     have H := HA.out
     clear HA
     simp only [impl_tick.j1] at H
     have HC100 := MK H
     clear H
     go_upto_if 49 with (fail)
     go_cut [49] (fun v49 wc => ∃ (kq : Nat) (x49_99 : Bool), v49 = .bool x49_99 ∧ Aside0 (impl_tick.j2 kq t326 x49_99 a1_0 a1_1 a2_0 a2_1 a2_2 a2_3 a2_4 true 0 a2_2 0 x326004_4 x326005_4 = some (r1, r2, r3, r4, r5, r6)) ∧ Aside0 (kq ≤ kj53) ∧ Aside0 (wc.heap[gb320]? = some (.cells #[.int .i64 a0_0, .int .i64 a0_1, .int .i64 a0_2, .int .i64 a0_3, .int .i64 a0_4] 32 (0, 0))) ∧ Aside0 (wc.heap[gb321]? = some (.cells #[.int .i64 a1_0, .int .i64 a1_1] 26 (0, 0))) ∧ Aside0 (wc.heap[gb322]? = some (.cells #[.int .i64 a2_0, .int .i64 a2_1, .int .i64 a2_2, .int .i64 a2_3, .bool a2_4] 38 (0, 0))) ∧ Aside0 (wc.heap[gb323]? = some (.cells #[.bool false, .int .i64 0, .int .i64 0, .int .i64 0, .bool false, .bool false] 52 (0, 0))) ∧ Aside0 (wc.heap[gb325]? = some (.cells #[.bool true, .int .i64 0, .int .i64 a2_2, .int .i64 0, .bool x326004_4, .bool x326005_4] 52 (0, 0))) ∧ Aside0 (Below w.heap.size w wc))
     case first =>
      have H := HC100.out
      clear HC100
      by_cases c101 : x49_53 = true
      ·subst c101
       have H1 : (impl_tick.j2 kj53 t326 true a1_0 a1_1 a2_0 a2_1 a2_2 a2_3 a2_4 true 0 a2_2 0 x326004_4 x326005_4) = some (r1, r2, r3, r4, r5, r6) := by rw [if_pos rfl] at H; exact H
       clear H
       have H := H1
       clear H1
       have H' := MK H
       clear H
       go_wp2
       go_meet
       case rel => exact ⟨_, (true), (by first | rfl | (simp; done) | (simp [*]; done)), H', ⟨by have := HJ4.out; have := HJ53.out; first | omega | exact Nat.le_refl _⟩, ⟨by (with_reducible repeat (first | refine bN ?_ _ | refine bD ?_ | refine bA ?_ _)); exact BK320.out⟩, ⟨by (with_reducible repeat (first | refine bN ?_ _ | refine bD ?_ | refine bA ?_ _)); exact BK321.out⟩, ⟨by (with_reducible repeat (first | refine bN ?_ _ | refine bD ?_ | refine bA ?_ _)); exact BK322.out⟩, ⟨by (with_reducible repeat (first | refine bN ?_ _ | refine bD ?_ | refine bA ?_ _)); exact BK323.out⟩, ⟨by (with_reducible repeat (first | refine bN ?_ _ | refine bD ?_ | refine bA ?_ _)); exact BK325.out⟩, ⟨by repeat (first | (with_reducible first | exact HB.out | apply lA | apply lN | apply lD | refine lS ?_ GE320.out | refine lS ?_ GE321.out | refine lS ?_ GE322.out | refine lS ?_ GE323.out | refine lS ?_ GE325.out) | exact HB.out)⟩⟩
      ·replace c101 := Bool.eq_false_iff.mpr c101
       subst c101
       have H1 : (impl_tick.j2 kj53 t326 (!(decide (t324 ≤ (wrap64 (a2_2 - a2_0))))) a1_0 a1_1 a2_0 a2_1 a2_2 a2_3 a2_4 true 0 a2_2 0 x326004_4 x326005_4) = some (r1, r2, r3, r4, r5, r6) := by rw [if_neg (show ¬ (false = true) by decide)] at H; exact H
       clear H
       have H := H1
       clear H1
       have H' := MK H
       clear H
       go_wp2
       go_meet
       case rel => exact ⟨_, (!(decide (t324 ≤ (wrap64 (a2_2 - a2_0))))), (by first | rfl | (simp; done) | (simp [*]; done)), H', ⟨by have := HJ4.out; have := HJ53.out; first | omega | exact Nat.le_refl _⟩, ⟨by (with_reducible repeat (first | refine bN ?_ _ | refine bD ?_ | refine bA ?_ _)); exact BK320.out⟩, ⟨by (with_reducible repeat (first | refine bN ?_ _ | refine bD ?_ | refine bA ?_ _)); exact BK321.out⟩, ⟨by (with_reducible repeat (first | refine bN ?_ _ | refine bD ?_ | refine bA ?_ _)); exact BK322.out⟩, ⟨by (with_reducible repeat (first | refine bN ?_ _ | refine bD ?_ | refine bA ?_ _)); exact BK323.out⟩, ⟨by (with_reducible repeat (first | refine bN ?_ _ | refine bD ?_ | refine bA ?_ _)); exact BK325.out⟩, ⟨by repeat (first | (with_reducible first | exact HB.out | apply lA | apply lN | apply lD | refine lS ?_ GE320.out | refine lS ?_ GE321.out | refine lS ?_ GE322.out | refine lS ?_ GE323.out | refine lS ?_ GE325.out) | exact HB.out)⟩⟩
     case rest =>
      clear HC100
      (try clear hcz15_0); (try clear hcz15_1); (try clear hcz15_2); (try clear hcz15_3); (try clear hcz15_4); (try clear hcz21_0); (try clear hcz21_1); (try clear hcz21_2); (try clear hcz21_3); (try clear hcz21_4); (try clear hcz21_5); (try clear hcz22_0); (try clear hcz22_1); (try clear hcz22_2); (try clear hcz22_3); (try clear hcz22_4); (try clear hcz25_0); (try clear hcz25_1); (try clear hcz59_0); (try clear hcz59_1); (try clear hcz59_2); (try clear hcz59_3); (try clear hcz59_4); (try clear hcz63_0); (try clear hcz63_1); (try clear hcz63_2); (try clear hcz63_3); (try clear hcz63_4); (try clear hfz15_0); (try clear hfz15_1); (try clear hfz15_2); (try clear hfz15_3); (try clear hfz15_4); (try clear hfz21_0); (try clear hfz21_1); (try clear hfz21_2); (try clear hfz21_3); (try clear hfz21_4); (try clear hfz21_5); (try clear hfz22_0); (try clear hfz22_1); (try clear hfz22_2); (try clear hfz22_3); (try clear hfz22_4); (try clear hfz25_0); (try clear hfz25_1); (try clear hfz59_0); (try clear hfz59_1); (try clear hfz59_2); (try clear hfz59_3); (try clear hfz59_4); (try clear hfz63_0); (try clear hfz63_1); (try clear hfz63_2); (try clear hfz63_3); (try clear hfz63_4)
      obtain ⟨kq, x49_99, rfl, HA, HJ99, BK320, BK321, BK322, BK323, BK325, HB⟩ := hcut
      cases kq with
      | zero => exact absurd HA.out (by simp [impl_tick.j2])
      | succ kj99 =>
       have H := HA.out
       clear HA
       simp only [impl_tick.j2] at H
       by_cases c102 : x49_99 = true
       ·subst c102
        have H1 : (some (true, 3, a2_2, 0, x326004_4, x326005_4)) = some (r1, r2, r3, r4, r5, r6) := by rw [if_pos rfl] at H; exact H
        clear H
        have H := H1
        clear H1
        simp only [Option.some.injEq, Prod.mk.injEq] at H
        obtain ⟨rfl, rfl, rfl, rfl, rfl, rfl⟩ := H
        have hnb103 := NB325_320.out
        have hnc103 := NB320_325.out
        have hnb104 := NB325_321.out
        have hnc104 := NB321_325.out
        have hnb105 := NB325_322.out
        have hnc105 := NB322_325.out
        have hnb106 := NB325_323.out
        have hnc106 := NB323_325.out
        obtain ⟨hcz107_0, hcz107_1, hcz107_2, hcz107_3, hcz107_4, hcz107_5⟩ := bc6 BK325.out
        obtain ⟨hfz107_0, hfz107_1, hfz107_2, hfz107_3, hfz107_4, hfz107_5⟩ := bf6 BK325.out
        have hnb108 := NB323_320.out
        have hnc108 := NB320_323.out
        have hnb109 := NB323_321.out
        have hnc109 := NB321_323.out
        have hnb110 := NB323_322.out
        have hnc110 := NB322_323.out
        obtain ⟨hcz111_0, hcz111_1, hcz111_2, hcz111_3, hcz111_4, hcz111_5⟩ := bc6 BK323.out
        obtain ⟨hfz111_0, hfz111_1, hfz111_2, hfz111_3, hfz111_4, hfz111_5⟩ := bf6 BK323.out
        go_wp2
        refine bodyPost_ret (results_cell_row rfl _ _ gb323 52 #[.bool true, .int .i64 3, .int .i64 a2_2, .int .i64 0, .bool x326004_4, .bool x326005_4] (0, 0) _ rfl (by (with_reducible repeat (first | refine bN ?_ _ | refine bD ?_ | refine bA ?_ _)); refine blk_put (cs := #[.bool true, .int .i64 3, .int .i64 a2_2, .int .i64 0, .bool x326004_4, .bool false]) ?_ 5 _ rfl; (with_reducible repeat (first | refine bN ?_ _ | refine bD ?_ | refine bA ?_ _)); refine blk_put (cs := #[.bool true, .int .i64 3, .int .i64 a2_2, .int .i64 0, .bool false, .bool false]) ?_ 4 _ rfl; (with_reducible repeat (first | refine bN ?_ _ | refine bD ?_ | refine bA ?_ _)); refine blk_put (cs := #[.bool true, .int .i64 3, .int .i64 a2_2, .int .i64 0, .bool false, .bool false]) ?_ 3 _ rfl; (with_reducible repeat (first | refine bN ?_ _ | refine bD ?_ | refine bA ?_ _)); refine blk_put (cs := #[.bool true, .int .i64 3, .int .i64 0, .int .i64 0, .bool false, .bool false]) ?_ 2 _ rfl; (with_reducible repeat (first | refine bN ?_ _ | refine bD ?_ | refine bA ?_ _)); refine blk_put (cs := #[.bool true, .int .i64 0, .int .i64 0, .int .i64 0, .bool false, .bool false]) ?_ 1 _ rfl; (with_reducible repeat (first | refine bN ?_ _ | refine bD ?_ | refine bA ?_ _)); refine blk_put (cs := #[.bool false, .int .i64 0, .int .i64 0, .int .i64 0, .bool false, .bool false]) ?_ 0 _ rfl; (with_reducible repeat (first | refine bN ?_ _ | refine bD ?_ | refine bA ?_ _)); refine blk_far ?_ NB323_325.out _; (with_reducible repeat (first | refine bN ?_ _ | refine bD ?_ | refine bA ?_ _)); exact BK323.out) Try.underlying52 rfl (by kernel_rfl)) rfl ?_
        exact ⟨by first | rfl | (simp [errW_none, errW_some] <;> rfl) | (simp only [← hji52]; first | rfl | (simp [errW_none, errW_some] <;> rfl)) | (simp [*, errW_none, errW_some] <;> rfl), by repeat (first | (with_reducible first | exact HB.out | apply lA | apply lN | apply lD | refine lS ?_ GE320.out | refine lS ?_ GE321.out | refine lS ?_ GE322.out | refine lS ?_ GE323.out | refine lS ?_ GE325.out) | exact HB.out)⟩
       ·replace c102 := Bool.eq_false_iff.mpr c102
        subst c102
        have H1 : (if a2_1 > t326 then (impl_tick.j3 kj99 t326 (a1_0 != 0) a2_0 a2_1 a2_2 a2_3 a2_4 true 0 a2_2 0 x326004_4 x326005_4) else (impl_tick.j3 kj99 t326 false a2_0 a2_1 a2_2 a2_3 a2_4 true 0 a2_2 0 x326004_4 x326005_4)) = some (r1, r2, r3, r4, r5, r6) := by rw [if_neg (show ¬ (false = true) by decide)] at H; exact H
        clear H
        have H := H1
        clear H1
        have HC112 := MK H
        clear H
        go_upto_region 11 with (fail)
        go_cut [71] (fun v71 wc => ∃ (kq : Nat) (x71_111 : Bool), v71 = .bool x71_111 ∧ Aside0 (impl_tick.j3 kq t326 x71_111 a2_0 a2_1 a2_2 a2_3 a2_4 true 0 a2_2 0 x326004_4 x326005_4 = some (r1, r2, r3, r4, r5, r6)) ∧ Aside0 (kq ≤ kj99) ∧ Aside0 (wc.heap[gb320]? = some (.cells #[.int .i64 a0_0, .int .i64 a0_1, .int .i64 a0_2, .int .i64 a0_3, .int .i64 a0_4] 32 (0, 0))) ∧ Aside0 (wc.heap[gb321]? = some (.cells #[.int .i64 a1_0, .int .i64 a1_1] 26 (0, 0))) ∧ Aside0 (wc.heap[gb322]? = some (.cells #[.int .i64 a2_0, .int .i64 a2_1, .int .i64 a2_2, .int .i64 a2_3, .bool a2_4] 38 (0, 0))) ∧ Aside0 (wc.heap[gb323]? = some (.cells #[.bool false, .int .i64 0, .int .i64 0, .int .i64 0, .bool false, .bool false] 52 (0, 0))) ∧ Aside0 (wc.heap[gb325]? = some (.cells #[.bool true, .int .i64 0, .int .i64 a2_2, .int .i64 0, .bool x326004_4, .bool x326005_4] 52 (0, 0))) ∧ Aside0 (Below w.heap.size w wc))
        case first =>
         have H := HC112.out
         clear HC112
         by_cases c113 : a2_1 > t326
         ·rw [if_pos c113] at H
          have c113b0 : decide (t326 < a2_1) = true := decide_eq_true c113
          clear c113
          (first | rw [c113b0] | (simp only [i64_w, i32_w]; rw [c113b0]) | skip)
          have H' := MK H
          clear H
          have hnb114 := NB322_320.out
          have hnc114 := NB320_322.out
          have hnb115 := NB322_321.out
          have hnc115 := NB321_322.out
          have hnb116 := NB322_323.out
          have hnc116 := NB323_322.out
          have hnb117 := NB322_325.out
          have hnc117 := NB325_322.out
          obtain ⟨hcz118_0, hcz118_1, hcz118_2, hcz118_3, hcz118_4⟩ := bc5 BK322.out
          obtain ⟨hfz118_0, hfz118_1, hfz118_2, hfz118_3, hfz118_4⟩ := bf5 BK322.out
          have hnb119 := NB321_320.out
          have hnc119 := NB320_321.out
          have hnb120 := NB321_323.out
          have hnc120 := NB323_321.out
          have hnb121 := NB321_325.out
          have hnc121 := NB325_321.out
          obtain ⟨hcz122_0, hcz122_1⟩ := bc2 BK321.out
          obtain ⟨hfz122_0, hfz122_1⟩ := bf2 BK321.out
          go_wp2
          go_meet
          case rel => exact ⟨_, ((a1_0 != 0)), (by first | rfl | (simp; done) | (simp [*]; done)), H', ⟨by have := HJ4.out; have := HJ53.out; have := HJ99.out; first | omega | exact Nat.le_refl _⟩, ⟨by (with_reducible repeat (first | refine bN ?_ _ | refine bD ?_ | refine bA ?_ _)); exact BK320.out⟩, ⟨by (with_reducible repeat (first | refine bN ?_ _ | refine bD ?_ | refine bA ?_ _)); exact BK321.out⟩, ⟨by (with_reducible repeat (first | refine bN ?_ _ | refine bD ?_ | refine bA ?_ _)); exact BK322.out⟩, ⟨by (with_reducible repeat (first | refine bN ?_ _ | refine bD ?_ | refine bA ?_ _)); exact BK323.out⟩, ⟨by (with_reducible repeat (first | refine bN ?_ _ | refine bD ?_ | refine bA ?_ _)); exact BK325.out⟩, ⟨by repeat (first | (with_reducible first | exact HB.out | apply lA | apply lN | apply lD | refine lS ?_ GE320.out | refine lS ?_ GE321.out | refine lS ?_ GE322.out | refine lS ?_ GE323.out | refine lS ?_ GE325.out) | exact HB.out)⟩⟩
         ·rw [if_neg c113] at H
          have c113b0 : decide (t326 < a2_1) = false := decide_eq_false c113
          clear c113
          (first | rw [c113b0] | (simp only [i64_w, i32_w]; rw [c113b0]) | skip)
          have H' := MK H
          clear H
          have hnb123 := NB322_320.out
          have hnc123 := NB320_322.out
          have hnb124 := NB322_321.out
          have hnc124 := NB321_322.out
          have hnb125 := NB322_323.out
          have hnc125 := NB323_322.out
          have hnb126 := NB322_325.out
          have hnc126 := NB325_322.out
          obtain ⟨hcz127_0, hcz127_1, hcz127_2, hcz127_3, hcz127_4⟩ := bc5 BK322.out
          obtain ⟨hfz127_0, hfz127_1, hfz127_2, hfz127_3, hfz127_4⟩ := bf5 BK322.out
          go_wp2
          go_meet
          case rel => exact ⟨_, (false), (by first | rfl | (simp; done) | (simp [*]; done)), H', ⟨by have := HJ4.out; have := HJ53.out; have := HJ99.out; first | omega | exact Nat.le_refl _⟩, ⟨by (with_reducible repeat (first | refine bN ?_ _ | refine bD ?_ | refine bA ?_ _)); exact BK320.out⟩, ⟨by (with_reducible repeat (first | refine bN ?_ _ | refine bD ?_ | refine bA ?_ _)); exact BK321.out⟩, ⟨by (with_reducible repeat (first | refine bN ?_ _ | refine bD ?_ | refine bA ?_ _)); exact BK322.out⟩, ⟨by (with_reducible repeat (first | refine bN ?_ _ | refine bD ?_ | refine bA ?_ _)); exact BK323.out⟩, ⟨by (with_reducible repeat (first | refine bN ?_ _ | refine bD ?_ | refine bA ?_ _)); exact BK325.out⟩, ⟨by repeat (first | (with_reducible first | exact HB.out | apply lA | apply lN | apply lD | refine lS ?_ GE320.out | refine lS ?_ GE321.out | refine lS ?_ GE322.out | refine lS ?_ GE323.out | refine lS ?_ GE325.out) | exact HB.out)⟩⟩
        case rest =>
         clear HC112
         (try clear c102); (try clear hcz15_0); (try clear hcz15_1); (try clear hcz15_2); (try clear hcz15_3); (try clear hcz15_4); (try clear hcz21_0); (try clear hcz21_1); (try clear hcz21_2); (try clear hcz21_3); (try clear hcz21_4); (try clear hcz21_5); (try clear hcz22_0); (try clear hcz22_1); (try clear hcz22_2); (try clear hcz22_3); (try clear hcz22_4); (try clear hcz25_0); (try clear hcz25_1); (try clear hcz59_0); (try clear hcz59_1); (try clear hcz59_2); (try clear hcz59_3); (try clear hcz59_4); (try clear hcz63_0); (try clear hcz63_1); (try clear hcz63_2); (try clear hcz63_3); (try clear hcz63_4); (try clear hfz15_0); (try clear hfz15_1); (try clear hfz15_2); (try clear hfz15_3); (try clear hfz15_4); (try clear hfz21_0); (try clear hfz21_1); (try clear hfz21_2); (try clear hfz21_3); (try clear hfz21_4); (try clear hfz21_5); (try clear hfz22_0); (try clear hfz22_1); (try clear hfz22_2); (try clear hfz22_3); (try clear hfz22_4); (try clear hfz25_0); (try clear hfz25_1); (try clear hfz59_0); (try clear hfz59_1); (try clear hfz59_2); (try clear hfz59_3); (try clear hfz59_4); (try clear hfz63_0); (try clear hfz63_1); (try clear hfz63_2); (try clear hfz63_3); (try clear hfz63_4)
         obtain ⟨kq, x71_111, rfl, HA, HJ111, BK320, BK321, BK322, BK323, BK325, HB⟩ := hcut
         cases kq with
         | zero => exact absurd HA.out (by simp [impl_tick.j3])
         | succ kj111 =>
          have H := HA.out
          clear HA
          simp only [impl_tick.j3] at H
          by_cases c128 : x71_111 = true
          ·subst c128
           have H1 : (some (true, 2, a2_2, t326, x326004_4, x326005_4)) = some (r1, r2, r3, r4, r5, r6) := by rw [if_pos rfl] at H; exact H
           clear H
           have H := H1
           clear H1
           simp only [Option.some.injEq, Prod.mk.injEq] at H
           obtain ⟨rfl, rfl, rfl, rfl, rfl, rfl⟩ := H
           have hnb129 := NB325_320.out
           have hnc129 := NB320_325.out
           have hnb130 := NB325_321.out
           have hnc130 := NB321_325.out
           have hnb131 := NB325_322.out
           have hnc131 := NB322_325.out
           have hnb132 := NB325_323.out
           have hnc132 := NB323_325.out
           obtain ⟨hcz133_0, hcz133_1, hcz133_2, hcz133_3, hcz133_4, hcz133_5⟩ := bc6 BK325.out
           obtain ⟨hfz133_0, hfz133_1, hfz133_2, hfz133_3, hfz133_4, hfz133_5⟩ := bf6 BK325.out
           have hnb134 := NB323_320.out
           have hnc134 := NB320_323.out
           have hnb135 := NB323_321.out
           have hnc135 := NB321_323.out
           have hnb136 := NB323_322.out
           have hnc136 := NB322_323.out
           obtain ⟨hcz137_0, hcz137_1, hcz137_2, hcz137_3, hcz137_4, hcz137_5⟩ := bc6 BK323.out
           obtain ⟨hfz137_0, hfz137_1, hfz137_2, hfz137_3, hfz137_4, hfz137_5⟩ := bf6 BK323.out
           go_wp2
           refine bodyPost_ret (results_cell_row rfl _ _ gb323 52 #[.bool true, .int .i64 2, .int .i64 a2_2, .int .i64 t326, .bool x326004_4, .bool x326005_4] (0, 0) _ rfl (by (with_reducible repeat (first | refine bN ?_ _ | refine bD ?_ | refine bA ?_ _)); refine blk_put (cs := #[.bool true, .int .i64 2, .int .i64 a2_2, .int .i64 t326, .bool x326004_4, .bool false]) ?_ 5 _ rfl; (with_reducible repeat (first | refine bN ?_ _ | refine bD ?_ | refine bA ?_ _)); refine blk_put (cs := #[.bool true, .int .i64 2, .int .i64 a2_2, .int .i64 t326, .bool false, .bool false]) ?_ 4 _ rfl; (with_reducible repeat (first | refine bN ?_ _ | refine bD ?_ | refine bA ?_ _)); refine blk_put (cs := #[.bool true, .int .i64 2, .int .i64 a2_2, .int .i64 0, .bool false, .bool false]) ?_ 3 _ rfl; (with_reducible repeat (first | refine bN ?_ _ | refine bD ?_ | refine bA ?_ _)); refine blk_put (cs := #[.bool true, .int .i64 2, .int .i64 0, .int .i64 0, .bool false, .bool false]) ?_ 2 _ rfl; (with_reducible repeat (first | refine bN ?_ _ | refine bD ?_ | refine bA ?_ _)); refine blk_put (cs := #[.bool true, .int .i64 0, .int .i64 0, .int .i64 0, .bool false, .bool false]) ?_ 1 _ rfl; (with_reducible repeat (first | refine bN ?_ _ | refine bD ?_ | refine bA ?_ _)); refine blk_put (cs := #[.bool false, .int .i64 0, .int .i64 0, .int .i64 0, .bool false, .bool false]) ?_ 0 _ rfl; (with_reducible repeat (first | refine bN ?_ _ | refine bD ?_ | refine bA ?_ _)); refine blk_far ?_ NB323_325.out _; (with_reducible repeat (first | refine bN ?_ _ | refine bD ?_ | refine bA ?_ _)); refine blk_far ?_ NB323_325.out _; (with_reducible repeat (first | refine bN ?_ _ | refine bD ?_ | refine bA ?_ _)); exact BK323.out) Try.underlying52 rfl (by kernel_rfl)) rfl ?_
           exact ⟨by first | rfl | (simp [errW_none, errW_some] <;> rfl) | (simp only [← hji52]; first | rfl | (simp [errW_none, errW_some] <;> rfl)) | (simp [*, errW_none, errW_some] <;> rfl), by repeat (first | (with_reducible first | exact HB.out | apply lA | apply lN | apply lD | refine lS ?_ GE320.out | refine lS ?_ GE321.out | refine lS ?_ GE322.out | refine lS ?_ GE323.out | refine lS ?_ GE325.out) | exact HB.out)⟩
          ·replace c128 := Bool.eq_false_iff.mpr c128
           subst c128
           have H1 : (if a2_1 > t326 then (some (true, 1, a2_2, t326, x326004_4, x326005_4)) else (some (true, 0, a2_2, t326, x326004_4, x326005_4))) = some (r1, r2, r3, r4, r5, r6) := by rw [if_neg (show ¬ (false = true) by decide)] at H; exact H
           clear H
           have H := H1
           clear H1
           have HC138 := MK H
           clear H
           have hnb139 := NB322_320.out
           have hnc139 := NB320_322.out
           have hnb140 := NB322_321.out
           have hnc140 := NB321_322.out
           have hnb141 := NB322_323.out
           have hnc141 := NB323_322.out
           have hnb142 := NB322_325.out
           have hnc142 := NB325_322.out
           obtain ⟨hcz143_0, hcz143_1, hcz143_2, hcz143_3, hcz143_4⟩ := bc5 BK322.out
           obtain ⟨hfz143_0, hfz143_1, hfz143_2, hfz143_3, hfz143_4⟩ := bf5 BK322.out
           go_upto_if 83 with (fail)
           have H := HC138.out
           clear HC138
           by_cases c144 : a2_1 > t326
           ·rw [if_pos c144] at H
            have c144b0 : decide (t326 < a2_1) = true := decide_eq_true c144
            clear c144
            (first | rw [c144b0] | (simp only [i64_w, i32_w]; rw [c144b0]) | skip)
            simp only [Option.some.injEq, Prod.mk.injEq] at H
            obtain ⟨rfl, rfl, rfl, rfl, rfl, rfl⟩ := H
            have hnb145 := NB325_320.out
            have hnc145 := NB320_325.out
            have hnb146 := NB325_321.out
            have hnc146 := NB321_325.out
            have hnb147 := NB325_322.out
            have hnc147 := NB322_325.out
            have hnb148 := NB325_323.out
            have hnc148 := NB323_325.out
            obtain ⟨hcz149_0, hcz149_1, hcz149_2, hcz149_3, hcz149_4, hcz149_5⟩ := bc6 BK325.out
            obtain ⟨hfz149_0, hfz149_1, hfz149_2, hfz149_3, hfz149_4, hfz149_5⟩ := bf6 BK325.out
            have hnb150 := NB323_320.out
            have hnc150 := NB320_323.out
            have hnb151 := NB323_321.out
            have hnc151 := NB321_323.out
            have hnb152 := NB323_322.out
            have hnc152 := NB322_323.out
            obtain ⟨hcz153_0, hcz153_1, hcz153_2, hcz153_3, hcz153_4, hcz153_5⟩ := bc6 BK323.out
            obtain ⟨hfz153_0, hfz153_1, hfz153_2, hfz153_3, hfz153_4, hfz153_5⟩ := bf6 BK323.out
            go_wp2
            refine bodyPost_ret (results_cell_row rfl _ _ gb323 52 #[.bool true, .int .i64 1, .int .i64 a2_2, .int .i64 t326, .bool x326004_4, .bool x326005_4] (0, 0) _ rfl (by (with_reducible repeat (first | refine bN ?_ _ | refine bD ?_ | refine bA ?_ _)); refine blk_put (cs := #[.bool true, .int .i64 1, .int .i64 a2_2, .int .i64 t326, .bool x326004_4, .bool false]) ?_ 5 _ rfl; (with_reducible repeat (first | refine bN ?_ _ | refine bD ?_ | refine bA ?_ _)); refine blk_put (cs := #[.bool true, .int .i64 1, .int .i64 a2_2, .int .i64 t326, .bool false, .bool false]) ?_ 4 _ rfl; (with_reducible repeat (first | refine bN ?_ _ | refine bD ?_ | refine bA ?_ _)); refine blk_put (cs := #[.bool true, .int .i64 1, .int .i64 a2_2, .int .i64 0, .bool false, .bool false]) ?_ 3 _ rfl; (with_reducible repeat (first | refine bN ?_ _ | refine bD ?_ | refine bA ?_ _)); refine blk_put (cs := #[.bool true, .int .i64 1, .int .i64 0, .int .i64 0, .bool false, .bool false]) ?_ 2 _ rfl; (with_reducible repeat (first | refine bN ?_ _ | refine bD ?_ | refine bA ?_ _)); refine blk_put (cs := #[.bool true, .int .i64 0, .int .i64 0, .int .i64 0, .bool false, .bool false]) ?_ 1 _ rfl; (with_reducible repeat (first | refine bN ?_ _ | refine bD ?_ | refine bA ?_ _)); refine blk_put (cs := #[.bool false, .int .i64 0, .int .i64 0, .int .i64 0, .bool false, .bool false]) ?_ 0 _ rfl; (with_reducible repeat (first | refine bN ?_ _ | refine bD ?_ | refine bA ?_ _)); refine blk_far ?_ NB323_325.out _; (with_reducible repeat (first | refine bN ?_ _ | refine bD ?_ | refine bA ?_ _)); refine blk_far ?_ NB323_325.out _; (with_reducible repeat (first | refine bN ?_ _ | refine bD ?_ | refine bA ?_ _)); exact BK323.out) Try.underlying52 rfl (by kernel_rfl)) rfl ?_
            exact ⟨by first | rfl | (simp [errW_none, errW_some] <;> rfl) | (simp only [← hji52]; first | rfl | (simp [errW_none, errW_some] <;> rfl)) | (simp [*, errW_none, errW_some] <;> rfl), by repeat (first | (with_reducible first | exact HB.out | apply lA | apply lN | apply lD | refine lS ?_ GE320.out | refine lS ?_ GE321.out | refine lS ?_ GE322.out | refine lS ?_ GE323.out | refine lS ?_ GE325.out) | exact HB.out)⟩
           ·rw [if_neg c144] at H
            have c144b0 : decide (t326 < a2_1) = false := decide_eq_false c144
            clear c144
            (first | rw [c144b0] | (simp only [i64_w, i32_w]; rw [c144b0]) | skip)
            simp only [Option.some.injEq, Prod.mk.injEq] at H
            obtain ⟨rfl, rfl, rfl, rfl, rfl, rfl⟩ := H
            have hnb154 := NB325_320.out
            have hnc154 := NB320_325.out
            have hnb155 := NB325_321.out
            have hnc155 := NB321_325.out
            have hnb156 := NB325_322.out
            have hnc156 := NB322_325.out
            have hnb157 := NB325_323.out
            have hnc157 := NB323_325.out
            obtain ⟨hcz158_0, hcz158_1, hcz158_2, hcz158_3, hcz158_4, hcz158_5⟩ := bc6 BK325.out
            obtain ⟨hfz158_0, hfz158_1, hfz158_2, hfz158_3, hfz158_4, hfz158_5⟩ := bf6 BK325.out
            have hnb159 := NB323_320.out
            have hnc159 := NB320_323.out
            have hnb160 := NB323_321.out
            have hnc160 := NB321_323.out
            have hnb161 := NB323_322.out
            have hnc161 := NB322_323.out
            obtain ⟨hcz162_0, hcz162_1, hcz162_2, hcz162_3, hcz162_4, hcz162_5⟩ := bc6 BK323.out
            obtain ⟨hfz162_0, hfz162_1, hfz162_2, hfz162_3, hfz162_4, hfz162_5⟩ := bf6 BK323.out
            go_wp2
            refine bodyPost_ret (results_cell_row rfl _ _ gb323 52 #[.bool true, .int .i64 0, .int .i64 a2_2, .int .i64 t326, .bool x326004_4, .bool x326005_4] (0, 0) _ rfl (by (with_reducible repeat (first | refine bN ?_ _ | refine bD ?_ | refine bA ?_ _)); refine blk_put (cs := #[.bool true, .int .i64 0, .int .i64 a2_2, .int .i64 t326, .bool x326004_4, .bool false]) ?_ 5 _ rfl; (with_reducible repeat (first | refine bN ?_ _ | refine bD ?_ | refine bA ?_ _)); refine blk_put (cs := #[.bool true, .int .i64 0, .int .i64 a2_2, .int .i64 t326, .bool false, .bool false]) ?_ 4 _ rfl; (with_reducible repeat (first | refine bN ?_ _ | refine bD ?_ | refine bA ?_ _)); refine blk_put (cs := #[.bool true, .int .i64 0, .int .i64 a2_2, .int .i64 0, .bool false, .bool false]) ?_ 3 _ rfl; (with_reducible repeat (first | refine bN ?_ _ | refine bD ?_ | refine bA ?_ _)); refine blk_put (cs := #[.bool true, .int .i64 0, .int .i64 0, .int .i64 0, .bool false, .bool false]) ?_ 2 _ rfl; (with_reducible repeat (first | refine bN ?_ _ | refine bD ?_ | refine bA ?_ _)); refine blk_put (cs := #[.bool true, .int .i64 0, .int .i64 0, .int .i64 0, .bool false, .bool false]) ?_ 1 _ rfl; (with_reducible repeat (first | refine bN ?_ _ | refine bD ?_ | refine bA ?_ _)); refine blk_put (cs := #[.bool false, .int .i64 0, .int .i64 0, .int .i64 0, .bool false, .bool false]) ?_ 0 _ rfl; (with_reducible repeat (first | refine bN ?_ _ | refine bD ?_ | refine bA ?_ _)); refine blk_far ?_ NB323_325.out _; (with_reducible repeat (first | refine bN ?_ _ | refine bD ?_ | refine bA ?_ _)); exact BK323.out) Try.underlying52 rfl (by kernel_rfl)) rfl ?_
            exact ⟨by first | rfl | (simp [errW_none, errW_some] <;> rfl) | (simp only [← hji52]; first | rfl | (simp [errW_none, errW_some] <;> rfl)) | (simp [*, errW_none, errW_some] <;> rfl), by repeat (first | (with_reducible first | exact HB.out | apply lA | apply lN | apply lD | refine lS ?_ GE320.out | refine lS ?_ GE321.out | refine lS ?_ GE322.out | refine lS ?_ GE323.out | refine lS ?_ GE325.out) | exact HB.out)⟩

end Go.Proofs.Ytnikfadkmhcalaa.Q
