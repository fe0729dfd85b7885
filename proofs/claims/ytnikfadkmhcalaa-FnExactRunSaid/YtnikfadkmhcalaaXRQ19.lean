/- Walks: a call of each function answers what its Lean function tells; no condition but that it tells something. -/
import Derived.Test.YtnikfadkmhcalaaXRQ0
import Derived.Test.YtnikfadkmhcalaaXRQ2
import Derived.Test.YtnikfadkmhcalaaXRQ4
import Derived.Test.YtnikfadkmhcalaaXRQ6
import Derived.Test.YtnikfadkmhcalaaXRQ16
import Derived.Test.YtnikfadkmhcalaaXRQ18
namespace Go.Proofs.Ytnikfadkmhcalaa.Q
open Go.RowKit Go.Proofs.YtnikfadkmhcalaaW.PrintWords Go.Proofs.YtnikfadkmhcalaaW.PrintLast Go.Proofs.YtnikfadkmhcalaaW.PrintMore
attribute [local go_sem] max2_int min2_int max_two min_two max_three min_three max_four min_four   -- for this text's walks alone
set_option linter.unusedVariables false
set_option linter.unusedSimpArgs false

/-! ### spec_Tick: function 35 -/
mutual
def spec_Tick.j0 : Nat → Bool → Int → Int → Int → Int → Int → Int → Int → Int → Int → Int → Int → Bool → Option (Bool × Int × Int × Int × Bool × Bool)
 | 0, _, _, _, _, _, _, _, _, _, _, _, _, _ => none
 | k + 1, x22, x310000, x310001, x310002, x310003, x310004, x311000, x311001, x312000, x312001, x312002, x312003, x312004 => if x22 = true then (some (false, 0, 0, 0, false, false)) else (if x312002 = x311001 then (spec_Tick.j1 k x310000 x310001 x310002 x310003 x310004 x311000 x311001 x312000 x312001 x312002 x312003 x312004 true x311000 x311001 0 false false) else (if x312002 > x311001 then (spec_Tick.j1 k x310000 x310001 x310002 x310003 x310004 x311000 x311001 x312000 x312001 x312002 x312003 x312004 true x311000 x312002 0 true true) else ((spec_l2keeps.f k x310000 x310001 x310002 x310003 x310004 x312000 x312001 x312002 x312003 x312004 x312002).bind fun t317 => (spec_Tick.j1 k x310000 x310001 x310002 x310003 x310004 x311000 x311001 x312000 x312001 x312002 x312003 x312004 true x311000 x312002 0 t317 true))))
def spec_Tick.j1 : Nat → Int → Int → Int → Int → Int → Int → Int → Int → Int → Int → Int → Bool → Bool → Int → Int → Int → Bool → Bool → Option (Bool × Int × Int × Int × Bool × Bool)
 | 0, _, _, _, _, _, _, _, _, _, _, _, _, _, _, _, _, _, _ => none
 | k + 1, x310000, x310001, x310002, x310003, x310004, x311000, x311001, x312000, x312001, x312002, x312003, x312004, x317000, x317001, x317002, x317003, x317004, x317005 => if (wrap64 (x317002 - x312000)) < 0 then (spec_Tick.j2 k 0 x310000 x310001 x310002 x310003 x310004 x311000 x311001 x312000 x312001 x312002 x312003 x312004 x317000 x317001 x317002 x317003 x317004 x317005) else (spec_Tick.j2 k (wrap64 (x317002 - x312000)) x310000 x310001 x310002 x310003 x310004 x311000 x311001 x312000 x312001 x312002 x312003 x312004 x317000 x317001 x317002 x317003 x317004 x317005)
def spec_Tick.j2 : Nat → Int → Int → Int → Int → Int → Int → Int → Int → Int → Int → Int → Int → Bool → Bool → Int → Int → Int → Bool → Bool → Option (Bool × Int × Int × Int × Bool × Bool)
 | 0, _, _, _, _, _, _, _, _, _, _, _, _, _, _, _, _, _, _, _ => none
 | k + 1, x8, x310000, x310001, x310002, x310003, x310004, x311000, x311001, x312000, x312001, x312002, x312003, x312004, x317000, x317001, x317002, x317003, x317004, x317005 => (spec_Permitted.f k x310000 x310001 x310002 x310003 x310004 x8 x312003).bind fun t318 => ((spec_l2keeps.f k x310000 x310001 x310002 x310003 x310004 x312000 x312001 x312002 x312003 x312004 x317002).bind fun t319 => (if x311000 = 3 then (if x312001 > 0 then (spec_Tick.j3 k t319 true x311000 x311001 x312000 x312001 x312002 x312003 x312004 x317000 x317001 x317002 t318 x317004 x317005) else (if x312004 = true then (spec_Tick.j3 k t319 (!t319) x311000 x311001 x312000 x312001 x312002 x312003 x312004 x317000 x317001 x317002 t318 x317004 x317005) else (spec_Tick.j3 k t319 true x311000 x311001 x312000 x312001 x312002 x312003 x312004 x317000 x317001 x317002 t318 x317004 x317005))) else (spec_Tick.j3 k t319 false x311000 x311001 x312000 x312001 x312002 x312003 x312004 x317000 x317001 x317002 t318 x317004 x317005)))
def spec_Tick.j3 : Nat → Bool → Bool → Int → Int → Int → Int → Int → Int → Bool → Bool → Int → Int → Int → Bool → Bool → Option (Bool × Int × Int × Int × Bool × Bool)
 | 0, _, _, _, _, _, _, _, _, _, _, _, _, _, _, _ => none
 | k + 1, x9, x85, x311000, x311001, x312000, x312001, x312002, x312003, x312004, x317000, x317001, x317002, x317003, x317004, x317005 => if x85 = true then (some (x317000, x317001, x317002, 0, x317004, x317005)) else (if x9 = true then (if x312001 > x317003 then (spec_Tick.j4 k (decide (x311000 ≥ 1)) x312000 x312001 x312002 x312003 x312004 x317000 x317001 x317002 x317003 x317004 x317005) else (spec_Tick.j4 k false x312000 x312001 x312002 x312003 x312004 x317000 x317001 x317002 x317003 x317004 x317005)) else (some (x317000, 3, x317002, 0, x317004, x317005)))
def spec_Tick.j4 : Nat → Bool → Int → Int → Int → Int → Bool → Bool → Int → Int → Int → Bool → Bool → Option (Bool × Int × Int × Int × Bool × Bool)
 | 0, _, _, _, _, _, _, _, _, _, _, _, _ => none
 | k + 1, x96, x312000, x312001, x312002, x312003, x312004, x317000, x317001, x317002, x317003, x317004, x317005 => if x96 = true then (some (x317000, 2, x317002, x317003, x317004, x317005)) else (if x312001 > x317003 then (some (x317000, 1, x317002, x317003, x317004, x317005)) else (some (x317000, 0, x317002, x317003, x317004, x317005)))
end
def spec_Tick.f (k : Nat) (a0_0 : Int) (a0_1 : Int) (a0_2 : Int) (a0_3 : Int) (a0_4 : Int) (a1_0 : Int) (a1_1 : Int) (a2_0 : Int) (a2_1 : Int) (a2_2 : Int) (a2_3 : Int) (a2_4 : Bool) : Option (Bool × Int × Int × Int × Bool × Bool) := (spec_BrakesOk.f a0_0 a0_1 a0_2 a0_3 a0_4).bind fun t313 => (if t313 = true then ((spec_GuardOk.f a1_0 a1_1).bind fun t314 => (if t314 = true then ((spec_FeltOk.f a2_0 a2_1 a2_2 a2_3 a2_4).bind fun t315 => (spec_Tick.j0 k (!t315) a0_0 a0_1 a0_2 a0_3 a0_4 a1_0 a1_1 a2_0 a2_1 a2_2 a2_3 a2_4)) else (spec_Tick.j0 k true a0_0 a0_1 a0_2 a0_3 a0_4 a1_0 a1_1 a2_0 a2_1 a2_2 a2_3 a2_4))) else (spec_Tick.j0 k true a0_0 a0_1 a0_2 a0_3 a0_4 a1_0 a1_1 a2_0 a2_1 a2_2 a2_3 a2_4))
set_option maxHeartbeats 8000000 in
set_option maxRecDepth 100000 in
theorem spec_Tick.calls (k : Nat) (a0_0 : Int) (a0_1 : Int) (a0_2 : Int) (a0_3 : Int) (a0_4 : Int) (a1_0 : Int) (a1_1 : Int) (a2_0 : Int) (a2_1 : Int) (a2_2 : Int) (a2_3 : Int) (a2_4 : Bool) (r1 : Bool) (r2 : Int) (r3 : Int) (r4 : Int) (r5 : Bool) (r6 : Bool) (w : World) (h : spec_Tick.f k a0_0 a0_1 a0_2 a0_3 a0_4 a1_0 a1_1 a2_0 a2_1 a2_2 a2_3 a2_4 = some (r1, r2, r3, r4, r5, r6)) :
  Calls Try.prog 35 #[.agg #[.int .i64 a0_0, .int .i64 a0_1, .int .i64 a0_2, .int .i64 a0_3, .int .i64 a0_4], .agg #[.int .i64 a1_0, .int .i64 a1_1], .agg #[.int .i64 a2_0, .int .i64 a2_1, .int .i64 a2_2, .int .i64 a2_3, .bool a2_4]] w fun e w' => e = .returned (.agg #[.bool r1, .int .i64 r2, .int .i64 r3, .int .i64 r4, .bool r5, .bool r6]) ∧ Below w.heap.size w w' := by
 have hu32 := Try.underlying32
 have hu26 := Try.underlying26
 have hu38 := Try.underlying38
 have hu52 := Try.underlying52
 have HB := MK (Below.refl w.heap.size w)
 have H : ((spec_BrakesOk.f a0_0 a0_1 a0_2 a0_3 a0_4).bind fun t313 => (if t313 = true then ((spec_GuardOk.f a1_0 a1_1).bind fun t314 => (if t314 = true then ((spec_FeltOk.f a2_0 a2_1 a2_2 a2_3 a2_4).bind fun t315 => (spec_Tick.j0 k (!t315) a0_0 a0_1 a0_2 a0_3 a0_4 a1_0 a1_1 a2_0 a2_1 a2_2 a2_3 a2_4)) else (spec_Tick.j0 k true a0_0 a0_1 a0_2 a0_3 a0_4 a1_0 a1_1 a2_0 a2_1 a2_2 a2_3 a2_4))) else (spec_Tick.j0 k true a0_0 a0_1 a0_2 a0_3 a0_4 a1_0 a1_1 a2_0 a2_1 a2_2 a2_3 a2_4))) = some (r1, r2, r3, r4, r5, r6) := h
 clear h
 have HC4 := MK H
 clear H
 go_enter Try.func35, Try.ntmps35
 go_upto_region 1 with (first | ((with_reducible refine gate_dst (N := 3) rfl ?_); refine box_event ?hg (N := 3) ?hd (cs := #[.int .i64 a0_0, .int .i64 a0_1, .int .i64 a0_2, .int .i64 a0_3, .int .i64 a0_4]) (t := 32) ?hr ?_; (case hd => rfl); (case hg => rfl); (case hr => first | (go_simp; done) | (go_simp; rfl)); intro gb309 hg w5 hbox hb; have n0_ := MK (below_step (by repeat (first | (with_reducible first | exact HB.out | apply lA | apply lN | apply lD) | exact HB.out)) hb); have n1_ := MK (hbox); have n2_ := MK ((by rw [hg]; exact (below_size (by repeat (first | (with_reducible first | exact HB.out | apply lA | apply lN | apply lD) | exact HB.out))) : w.heap.size ≤ gb309)); have n3_ := MK ((by rw [hg]; exact (below_size (by repeat (first | (with_reducible first | exact HB.out | apply lA | apply lN | apply lD) | exact HB.out))) : w.heap.size ≤ gb309)); clear HB; have HB := n0_; have BK309 := n1_; have GW309 := n2_; have GE309 := n3_; clear n0_ n1_ n2_ n3_; clear hb hbox hg) | ((with_reducible refine gate_dst (N := 4) rfl ?_); refine box_event ?hg (N := 4) ?hd (cs := #[.int .i64 a1_0, .int .i64 a1_1]) (t := 26) ?hr ?_; (case hd => rfl); (case hg => rfl); (case hr => first | (go_simp; done) | (go_simp; rfl)); intro gb310 hg w6 hbox hb; have n0_ := MK (blk_below (by (with_reducible repeat (first | refine bN ?_ _ | refine bD ?_ | refine bA ?_ _)); exact BK309.out) hb); have n1_ := MK (below_step (by repeat (first | (with_reducible first | exact HB.out | apply lA | apply lN | apply lD | refine lS ?_ GE309.out) | exact HB.out)) hb); have n2_ := MK (hbox); have n3_ := MK ((by rw [hg]; exact (below_size (by repeat (first | (with_reducible first | exact HB.out | apply lA | apply lN | apply lD | refine lS ?_ GE309.out) | exact HB.out))) : w.heap.size ≤ gb310)); have n4_ := MK ((by rw [hg]; exact (below_size (by repeat (first | (with_reducible first | exact HB.out | apply lA | apply lN | apply lD | refine lS ?_ GE309.out) | exact HB.out))) : w.heap.size ≤ gb310)); have n5_ := MK ((by rw [hg]; exact Nat.ne_of_lt (blk_lt (by (with_reducible repeat (first | refine bN ?_ _ | refine bD ?_ | refine bA ?_ _)); exact BK309.out)) : gb309 ≠ gb310)); have n6_ := MK ((by rw [hg]; exact Nat.ne_of_gt (blk_lt (by (with_reducible repeat (first | refine bN ?_ _ | refine bD ?_ | refine bA ?_ _)); exact BK309.out)) : gb310 ≠ gb309)); clear BK309; clear HB; have BK309 := n0_; have HB := n1_; have BK310 := n2_; have GW310 := n3_; have GE310 := n4_; have NB309_310 := n5_; have NB310_309 := n6_; clear n0_ n1_ n2_ n3_ n4_ n5_ n6_; clear hb hbox hg) | ((with_reducible refine gate_dst (N := 5) rfl ?_); refine box_event ?hg (N := 5) ?hd (cs := #[.int .i64 a2_0, .int .i64 a2_1, .int .i64 a2_2, .int .i64 a2_3, .bool a2_4]) (t := 38) ?hr ?_; (case hd => rfl); (case hg => rfl); (case hr => first | (go_simp; done) | (go_simp; rfl)); intro gb311 hg w7 hbox hb; have n0_ := MK (blk_below (by (with_reducible repeat (first | refine bN ?_ _ | refine bD ?_ | refine bA ?_ _)); exact BK309.out) hb); have n1_ := MK (blk_below (by (with_reducible repeat (first | refine bN ?_ _ | refine bD ?_ | refine bA ?_ _)); exact BK310.out) hb); have n2_ := MK (below_step (by repeat (first | (with_reducible first | exact HB.out | apply lA | apply lN | apply lD | refine lS ?_ GE309.out | refine lS ?_ GE310.out) | exact HB.out)) hb); have n3_ := MK (hbox); have n4_ := MK ((by rw [hg]; exact (below_size (by repeat (first | (with_reducible first | exact HB.out | apply lA | apply lN | apply lD | refine lS ?_ GE309.out | refine lS ?_ GE310.out) | exact HB.out))) : w.heap.size ≤ gb311)); have n5_ := MK ((by rw [hg]; exact (below_size (by repeat (first | (with_reducible first | exact HB.out | apply lA | apply lN | apply lD | refine lS ?_ GE309.out | refine lS ?_ GE310.out) | exact HB.out))) : w.heap.size ≤ gb311)); have n6_ := MK ((by rw [hg]; exact Nat.ne_of_lt (blk_lt (by (with_reducible repeat (first | refine bN ?_ _ | refine bD ?_ | refine bA ?_ _)); exact BK309.out)) : gb309 ≠ gb311)); have n7_ := MK ((by rw [hg]; exact Nat.ne_of_gt (blk_lt (by (with_reducible repeat (first | refine bN ?_ _ | refine bD ?_ | refine bA ?_ _)); exact BK309.out)) : gb311 ≠ gb309)); have n8_ := MK ((by rw [hg]; exact Nat.ne_of_lt (blk_lt (by (with_reducible repeat (first | refine bN ?_ _ | refine bD ?_ | refine bA ?_ _)); exact BK310.out)) : gb310 ≠ gb311)); have n9_ := MK ((by rw [hg]; exact Nat.ne_of_gt (blk_lt (by (with_reducible repeat (first | refine bN ?_ _ | refine bD ?_ | refine bA ?_ _)); exact BK310.out)) : gb311 ≠ gb310)); clear BK309; clear BK310; clear HB; have BK309 := n0_; have BK310 := n1_; have HB := n2_; have BK311 := n3_; have GW311 := n4_; have GE311 := n5_; have NB309_311 := n6_; have NB311_309 := n7_; have NB310_311 := n8_; have NB311_310 := n9_; clear n0_ n1_ n2_ n3_ n4_ n5_ n6_ n7_ n8_ n9_; clear hb hbox hg) | ((with_reducible refine gate_dst (N := 6) rfl ?_); refine box_event ?hg (N := 6) ?hd (cs := #[.bool false, .int .i64 0, .int .i64 0, .int .i64 0, .bool false, .bool false]) (t := 52) ?hr ?_; (case hd => rfl); (case hg => rfl); (case hr => first | (go_simp; done) | (go_simp; rfl)); intro gb312 hg w8 hbox hb; have n0_ := MK (blk_below (by (with_reducible repeat (first | refine bN ?_ _ | refine bD ?_ | refine bA ?_ _)); exact BK309.out) hb); have n1_ := MK (blk_below (by (with_reducible repeat (first | refine bN ?_ _ | refine bD ?_ | refine bA ?_ _)); exact BK310.out) hb); have n2_ := MK (blk_below (by (with_reducible repeat (first | refine bN ?_ _ | refine bD ?_ | refine bA ?_ _)); exact BK311.out) hb); have n3_ := MK (below_step (by repeat (first | (with_reducible first | exact HB.out | apply lA | apply lN | apply lD | refine lS ?_ GE309.out | refine lS ?_ GE310.out | refine lS ?_ GE311.out) | exact HB.out)) hb); have n4_ := MK (hbox); have n5_ := MK ((by rw [hg]; exact (below_size (by repeat (first | (with_reducible first | exact HB.out | apply lA | apply lN | apply lD | refine lS ?_ GE309.out | refine lS ?_ GE310.out | refine lS ?_ GE311.out) | exact HB.out))) : w.heap.size ≤ gb312)); have n6_ := MK ((by rw [hg]; exact (below_size (by repeat (first | (with_reducible first | exact HB.out | apply lA | apply lN | apply lD | refine lS ?_ GE309.out | refine lS ?_ GE310.out | refine lS ?_ GE311.out) | exact HB.out))) : w.heap.size ≤ gb312)); have n7_ := MK ((by rw [hg]; exact Nat.ne_of_lt (blk_lt (by (with_reducible repeat (first | refine bN ?_ _ | refine bD ?_ | refine bA ?_ _)); exact BK309.out)) : gb309 ≠ gb312)); have n8_ := MK ((by rw [hg]; exact Nat.ne_of_gt (blk_lt (by (with_reducible repeat (first | refine bN ?_ _ | refine bD ?_ | refine bA ?_ _)); exact BK309.out)) : gb312 ≠ gb309)); have n9_ := MK ((by rw [hg]; exact Nat.ne_of_lt (blk_lt (by (with_reducible repeat (first | refine bN ?_ _ | refine bD ?_ | refine bA ?_ _)); exact BK310.out)) : gb310 ≠ gb312)); have n10_ := MK ((by rw [hg]; exact Nat.ne_of_gt (blk_lt (by (with_reducible repeat (first | refine bN ?_ _ | refine bD ?_ | refine bA ?_ _)); exact BK310.out)) : gb312 ≠ gb310)); have n11_ := MK ((by rw [hg]; exact Nat.ne_of_lt (blk_lt (by (with_reducible repeat (first | refine bN ?_ _ | refine bD ?_ | refine bA ?_ _)); exact BK311.out)) : gb311 ≠ gb312)); have n12_ := MK ((by rw [hg]; exact Nat.ne_of_gt (blk_lt (by (with_reducible repeat (first | refine bN ?_ _ | refine bD ?_ | refine bA ?_ _)); exact BK311.out)) : gb312 ≠ gb311)); clear BK309; clear BK310; clear BK311; clear HB; have BK309 := n0_; have BK310 := n1_; have BK311 := n2_; have HB := n3_; have BK312 := n4_; have GW312 := n5_; have GE312 := n6_; have NB309_312 := n7_; have NB312_309 := n8_; have NB310_312 := n9_; have NB312_310 := n10_; have NB311_312 := n11_; have NB312_311 := n12_; clear n0_ n1_ n2_ n3_ n4_ n5_ n6_ n7_ n8_ n9_ n10_ n11_ n12_; clear hb hbox hg))
 (try simp only [Act.put, List.setIfInBounds_toArray, List.set_cons_zero, List.set_cons_succ])
 go_cut [22] (fun v22 wc => ∃ (kq : Nat) (x22_3 : Bool), v22 = .bool x22_3 ∧ Aside0 (spec_Tick.j0 kq x22_3 a0_0 a0_1 a0_2 a0_3 a0_4 a1_0 a1_1 a2_0 a2_1 a2_2 a2_3 a2_4 = some (r1, r2, r3, r4, r5, r6)) ∧ Aside0 (kq ≤ k) ∧ Aside0 (wc.heap[gb309]? = some (.cells #[.int .i64 a0_0, .int .i64 a0_1, .int .i64 a0_2, .int .i64 a0_3, .int .i64 a0_4] 32 (0, 0))) ∧ Aside0 (wc.heap[gb310]? = some (.cells #[.int .i64 a1_0, .int .i64 a1_1] 26 (0, 0))) ∧ Aside0 (wc.heap[gb311]? = some (.cells #[.int .i64 a2_0, .int .i64 a2_1, .int .i64 a2_2, .int .i64 a2_3, .bool a2_4] 38 (0, 0))) ∧ Aside0 (wc.heap[gb312]? = some (.cells #[.bool false, .int .i64 0, .int .i64 0, .int .i64 0, .bool false, .bool false] 52 (0, 0))) ∧ Aside0 (Below w.heap.size w wc))
 case first =>
  have H := HC4.out
  clear HC4
  replace H := Option.bind_eq_some_iff.mp H
  obtain ⟨t313, A90, H⟩ := H
  replace H : (if t313 = true then ((spec_GuardOk.f a1_0 a1_1).bind fun t314 => (if t314 = true then ((spec_FeltOk.f a2_0 a2_1 a2_2 a2_3 a2_4).bind fun t315 => (spec_Tick.j0 k (!t315) a0_0 a0_1 a0_2 a0_3 a0_4 a1_0 a1_1 a2_0 a2_1 a2_2 a2_3 a2_4)) else (spec_Tick.j0 k true a0_0 a0_1 a0_2 a0_3 a0_4 a1_0 a1_1 a2_0 a2_1 a2_2 a2_3 a2_4))) else (spec_Tick.j0 k true a0_0 a0_1 a0_2 a0_3 a0_4 a1_0 a1_1 a2_0 a2_1 a2_2 a2_3 a2_4)) = some (r1, r2, r3, r4, r5, r6) := H
  have A9 := MK A90
  clear A90
  by_cases c10 : t313 = true
  ·subst c10
   have H1 : ((spec_GuardOk.f a1_0 a1_1).bind fun t314 => (if t314 = true then ((spec_FeltOk.f a2_0 a2_1 a2_2 a2_3 a2_4).bind fun t315 => (spec_Tick.j0 k (!t315) a0_0 a0_1 a0_2 a0_3 a0_4 a1_0 a1_1 a2_0 a2_1 a2_2 a2_3 a2_4)) else (spec_Tick.j0 k true a0_0 a0_1 a0_2 a0_3 a0_4 a1_0 a1_1 a2_0 a2_1 a2_2 a2_3 a2_4))) = some (r1, r2, r3, r4, r5, r6) := by rw [if_pos rfl] at H; exact H
   clear H
   have H := H1
   clear H1
   replace H := Option.bind_eq_some_iff.mp H
   obtain ⟨t314, A110, H⟩ := H
   replace H : (if t314 = true then ((spec_FeltOk.f a2_0 a2_1 a2_2 a2_3 a2_4).bind fun t315 => (spec_Tick.j0 k (!t315) a0_0 a0_1 a0_2 a0_3 a0_4 a1_0 a1_1 a2_0 a2_1 a2_2 a2_3 a2_4)) else (spec_Tick.j0 k true a0_0 a0_1 a0_2 a0_3 a0_4 a1_0 a1_1 a2_0 a2_1 a2_2 a2_3 a2_4)) = some (r1, r2, r3, r4, r5, r6) := H
   have A11 := MK A110
   clear A110
   by_cases c12 : t314 = true
   ·subst c12
    have H1 : ((spec_FeltOk.f a2_0 a2_1 a2_2 a2_3 a2_4).bind fun t315 => (spec_Tick.j0 k (!t315) a0_0 a0_1 a0_2 a0_3 a0_4 a1_0 a1_1 a2_0 a2_1 a2_2 a2_3 a2_4)) = some (r1, r2, r3, r4, r5, r6) := by rw [if_pos rfl] at H; exact H
    clear H
    have H := H1
    clear H1
    replace H := Option.bind_eq_some_iff.mp H
    obtain ⟨t315, A130, H⟩ := H
    replace H : (spec_Tick.j0 k (!t315) a0_0 a0_1 a0_2 a0_3 a0_4 a1_0 a1_1 a2_0 a2_1 a2_2 a2_3 a2_4) = some (r1, r2, r3, r4, r5, r6) := H
    have A13 := MK A130
    clear A130
    have H' := MK H
    clear H
    have hnb14 := NB309_310.out
    have hnc14 := NB310_309.out
    have hnb15 := NB309_311.out
    have hnc15 := NB311_309.out
    have hnb16 := NB309_312.out
    have hnc16 := NB312_309.out
    obtain ⟨hcz17_0, hcz17_1, hcz17_2, hcz17_3, hcz17_4⟩ := bc5 BK309.out
    obtain ⟨hfz17_0, hfz17_1, hfz17_2, hfz17_3, hfz17_4⟩ := bf5 BK309.out
    go_wp2_with (first | ((with_reducible refine gate_callee (f := 18) rfl ?_); refine goesL_ (some 11) rfl rfl Try.func18 (by kernel_rfl) rfl #[.agg #[.int .i64 a0_0, .int .i64 a0_1, .int .i64 a0_2, .int .i64 a0_3, .int .i64 a0_4]] rfl (by (try simp only [List.map_toArray, List.map_cons, List.map_nil]); first | done | rfl | (simp only [List.length_drop, List.length_take]; rfl)) ?_; (with_reducible refine (spec_BrakesOk.calls a0_0 a0_1 a0_2 a0_3 a0_4 true _ A9.out).mono ?_); rintro e w18 ⟨rfl, hb⟩; refine ⟨_, rfl, ?_⟩; have n0_ := MK (blk_below (by (with_reducible repeat (first | refine bN ?_ _ | refine bD ?_ | refine bA ?_ _)); exact BK309.out) hb); have n1_ := MK (blk_below (by (with_reducible repeat (first | refine bN ?_ _ | refine bD ?_ | refine bA ?_ _)); exact BK310.out) hb); have n2_ := MK (blk_below (by (with_reducible repeat (first | refine bN ?_ _ | refine bD ?_ | refine bA ?_ _)); exact BK311.out) hb); have n3_ := MK (blk_below (by (with_reducible repeat (first | refine bN ?_ _ | refine bD ?_ | refine bA ?_ _)); exact BK312.out) hb); have n4_ := MK (below_step (by repeat (first | (with_reducible first | exact HB.out | apply lA | apply lN | apply lD | refine lS ?_ GE309.out | refine lS ?_ GE310.out | refine lS ?_ GE311.out | refine lS ?_ GE312.out) | exact HB.out)) hb); clear BK309; clear BK310; clear BK311; clear BK312; clear HB; have BK309 := n0_; have BK310 := n1_; have BK311 := n2_; have BK312 := n3_; have HB := n4_; clear n0_ n1_ n2_ n3_ n4_; (try clear hb); (try clear hb2); (try clear hk); (try clear hi); have hnb19 := NB310_311.out; have hnc19 := NB311_310.out; have hnb20 := NB310_312.out; have hnc20 := NB312_310.out; obtain ⟨hcz21_0, hcz21_1⟩ := bc2 BK310.out; obtain ⟨hfz21_0, hfz21_1⟩ := bf2 BK310.out) | (go_at_call 15; (with_reducible refine (spec_GuardOk.calls a1_0 a1_1 true _ A11.out).mono ?_); rintro e w22 ⟨rfl, hb⟩; have n0_ := MK (blk_below (by (with_reducible repeat (first | refine bN ?_ _ | refine bD ?_ | refine bA ?_ _)); exact BK309.out) hb); have n1_ := MK (blk_below (by (with_reducible repeat (first | refine bN ?_ _ | refine bD ?_ | refine bA ?_ _)); exact BK310.out) hb); have n2_ := MK (blk_below (by (with_reducible repeat (first | refine bN ?_ _ | refine bD ?_ | refine bA ?_ _)); exact BK311.out) hb); have n3_ := MK (blk_below (by (with_reducible repeat (first | refine bN ?_ _ | refine bD ?_ | refine bA ?_ _)); exact BK312.out) hb); have n4_ := MK (below_step (by repeat (first | (with_reducible first | exact HB.out | apply lA | apply lN | apply lD | refine lS ?_ GE309.out | refine lS ?_ GE310.out | refine lS ?_ GE311.out | refine lS ?_ GE312.out) | exact HB.out)) hb); clear BK309; clear BK310; clear BK311; clear BK312; clear HB; have BK309 := n0_; have BK310 := n1_; have BK311 := n2_; have BK312 := n3_; have HB := n4_; clear n0_ n1_ n2_ n3_ n4_; (try clear hb); (try clear hb2); (try clear hk); (try clear hi); have hnb23 := NB311_312.out; have hnc23 := NB312_311.out; obtain ⟨hcz24_0, hcz24_1, hcz24_2, hcz24_3, hcz24_4⟩ := bc5 BK311.out; obtain ⟨hfz24_0, hfz24_1, hfz24_2, hfz24_3, hfz24_4⟩ := bf5 BK311.out) | (go_at_call 21; (with_reducible refine (spec_FeltOk.calls a2_0 a2_1 a2_2 a2_3 a2_4 t315 _ A13.out).mono ?_); rintro e w25 ⟨rfl, hb⟩; have n0_ := MK (blk_below (by (with_reducible repeat (first | refine bN ?_ _ | refine bD ?_ | refine bA ?_ _)); exact BK309.out) hb); have n1_ := MK (blk_below (by (with_reducible repeat (first | refine bN ?_ _ | refine bD ?_ | refine bA ?_ _)); exact BK310.out) hb); have n2_ := MK (blk_below (by (with_reducible repeat (first | refine bN ?_ _ | refine bD ?_ | refine bA ?_ _)); exact BK311.out) hb); have n3_ := MK (blk_below (by (with_reducible repeat (first | refine bN ?_ _ | refine bD ?_ | refine bA ?_ _)); exact BK312.out) hb); have n4_ := MK (below_step (by repeat (first | (with_reducible first | exact HB.out | apply lA | apply lN | apply lD | refine lS ?_ GE309.out | refine lS ?_ GE310.out | refine lS ?_ GE311.out | refine lS ?_ GE312.out) | exact HB.out)) hb); clear BK309; clear BK310; clear BK311; clear BK312; clear HB; have BK309 := n0_; have BK310 := n1_; have BK311 := n2_; have BK312 := n3_; have HB := n4_; clear n0_ n1_ n2_ n3_ n4_; (try clear hb); (try clear hb2); (try clear hk); (try clear hi)))
    go_meet
    case rel => exact ⟨_, (!t315), (by first | rfl | (simp; done) | (simp [*]; done)), H', ⟨by first | omega | exact Nat.le_refl _⟩, ⟨by (with_reducible repeat (first | refine bN ?_ _ | refine bD ?_ | refine bA ?_ _)); exact BK309.out⟩, ⟨by (with_reducible repeat (first | refine bN ?_ _ | refine bD ?_ | refine bA ?_ _)); exact BK310.out⟩, ⟨by (with_reducible repeat (first | refine bN ?_ _ | refine bD ?_ | refine bA ?_ _)); exact BK311.out⟩, ⟨by (with_reducible repeat (first | refine bN ?_ _ | refine bD ?_ | refine bA ?_ _)); exact BK312.out⟩, ⟨by repeat (first | (with_reducible first | exact HB.out | apply lA | apply lN | apply lD | refine lS ?_ GE309.out | refine lS ?_ GE310.out | refine lS ?_ GE311.out | refine lS ?_ GE312.out) | exact HB.out)⟩⟩
   ·replace c12 := Bool.eq_false_iff.mpr c12
    subst c12
    have H1 : (spec_Tick.j0 k true a0_0 a0_1 a0_2 a0_3 a0_4 a1_0 a1_1 a2_0 a2_1 a2_2 a2_3 a2_4) = some (r1, r2, r3, r4, r5, r6) := by rw [if_neg (show ¬ (false = true) by decide)] at H; exact H
    clear H
    have H := H1
    clear H1
    have H' := MK H
    clear H
    have hnb26 := NB309_310.out
    have hnc26 := NB310_309.out
    have hnb27 := NB309_311.out
    have hnc27 := NB311_309.out
    have hnb28 := NB309_312.out
    have hnc28 := NB312_309.out
    obtain ⟨hcz29_0, hcz29_1, hcz29_2, hcz29_3, hcz29_4⟩ := bc5 BK309.out
    obtain ⟨hfz29_0, hfz29_1, hfz29_2, hfz29_3, hfz29_4⟩ := bf5 BK309.out
    go_wp2_with (first | ((with_reducible refine gate_callee (f := 18) rfl ?_); refine goesL_ (some 11) rfl rfl Try.func18 (by kernel_rfl) rfl #[.agg #[.int .i64 a0_0, .int .i64 a0_1, .int .i64 a0_2, .int .i64 a0_3, .int .i64 a0_4]] rfl (by (try simp only [List.map_toArray, List.map_cons, List.map_nil]); first | done | rfl | (simp only [List.length_drop, List.length_take]; rfl)) ?_; (with_reducible refine (spec_BrakesOk.calls a0_0 a0_1 a0_2 a0_3 a0_4 true _ A9.out).mono ?_); rintro e w30 ⟨rfl, hb⟩; refine ⟨_, rfl, ?_⟩; have n0_ := MK (blk_below (by (with_reducible repeat (first | refine bN ?_ _ | refine bD ?_ | refine bA ?_ _)); exact BK309.out) hb); have n1_ := MK (blk_below (by (with_reducible repeat (first | refine bN ?_ _ | refine bD ?_ | refine bA ?_ _)); exact BK310.out) hb); have n2_ := MK (blk_below (by (with_reducible repeat (first | refine bN ?_ _ | refine bD ?_ | refine bA ?_ _)); exact BK311.out) hb); have n3_ := MK (blk_below (by (with_reducible repeat (first | refine bN ?_ _ | refine bD ?_ | refine bA ?_ _)); exact BK312.out) hb); have n4_ := MK (below_step (by repeat (first | (with_reducible first | exact HB.out | apply lA | apply lN | apply lD | refine lS ?_ GE309.out | refine lS ?_ GE310.out | refine lS ?_ GE311.out | refine lS ?_ GE312.out) | exact HB.out)) hb); clear BK309; clear BK310; clear BK311; clear BK312; clear HB; have BK309 := n0_; have BK310 := n1_; have BK311 := n2_; have BK312 := n3_; have HB := n4_; clear n0_ n1_ n2_ n3_ n4_; (try clear hb); (try clear hb2); (try clear hk); (try clear hi); have hnb31 := NB310_311.out; have hnc31 := NB311_310.out; have hnb32 := NB310_312.out; have hnc32 := NB312_310.out; obtain ⟨hcz33_0, hcz33_1⟩ := bc2 BK310.out; obtain ⟨hfz33_0, hfz33_1⟩ := bf2 BK310.out) | (go_at_call 15; (with_reducible refine (spec_GuardOk.calls a1_0 a1_1 false _ A11.out).mono ?_); rintro e w34 ⟨rfl, hb⟩; have n0_ := MK (blk_below (by (with_reducible repeat (first | refine bN ?_ _ | refine bD ?_ | refine bA ?_ _)); exact BK309.out) hb); have n1_ := MK (blk_below (by (with_reducible repeat (first | refine bN ?_ _ | refine bD ?_ | refine bA ?_ _)); exact BK310.out) hb); have n2_ := MK (blk_below (by (with_reducible repeat (first | refine bN ?_ _ | refine bD ?_ | refine bA ?_ _)); exact BK311.out) hb); have n3_ := MK (blk_below (by (with_reducible repeat (first | refine bN ?_ _ | refine bD ?_ | refine bA ?_ _)); exact BK312.out) hb); have n4_ := MK (below_step (by repeat (first | (with_reducible first | exact HB.out | apply lA | apply lN | apply lD | refine lS ?_ GE309.out | refine lS ?_ GE310.out | refine lS ?_ GE311.out | refine lS ?_ GE312.out) | exact HB.out)) hb); clear BK309; clear BK310; clear BK311; clear BK312; clear HB; have BK309 := n0_; have BK310 := n1_; have BK311 := n2_; have BK312 := n3_; have HB := n4_; clear n0_ n1_ n2_ n3_ n4_; (try clear hb); (try clear hb2); (try clear hk); (try clear hi)))
    go_meet
    case rel => exact ⟨_, (true), (by first | rfl | (simp; done) | (simp [*]; done)), H', ⟨by first | omega | exact Nat.le_refl _⟩, ⟨by (with_reducible repeat (first | refine bN ?_ _ | refine bD ?_ | refine bA ?_ _)); exact BK309.out⟩, ⟨by (with_reducible repeat (first | refine bN ?_ _ | refine bD ?_ | refine bA ?_ _)); exact BK310.out⟩, ⟨by (with_reducible repeat (first | refine bN ?_ _ | refine bD ?_ | refine bA ?_ _)); exact BK311.out⟩, ⟨by (with_reducible repeat (first | refine bN ?_ _ | refine bD ?_ | refine bA ?_ _)); exact BK312.out⟩, ⟨by repeat (first | (with_reducible first | exact HB.out | apply lA | apply lN | apply lD | refine lS ?_ GE309.out | refine lS ?_ GE310.out | refine lS ?_ GE311.out | refine lS ?_ GE312.out) | exact HB.out)⟩⟩
  ·replace c10 := Bool.eq_false_iff.mpr c10
   subst c10
   have H1 : (spec_Tick.j0 k true a0_0 a0_1 a0_2 a0_3 a0_4 a1_0 a1_1 a2_0 a2_1 a2_2 a2_3 a2_4) = some (r1, r2, r3, r4, r5, r6) := by rw [if_neg (show ¬ (false = true) by decide)] at H; exact H
   clear H
   have H := H1
   clear H1
   have H' := MK H
   clear H
   have hnb35 := NB309_310.out
   have hnc35 := NB310_309.out
   have hnb36 := NB309_311.out
   have hnc36 := NB311_309.out
   have hnb37 := NB309_312.out
   have hnc37 := NB312_309.out
   obtain ⟨hcz38_0, hcz38_1, hcz38_2, hcz38_3, hcz38_4⟩ := bc5 BK309.out
   obtain ⟨hfz38_0, hfz38_1, hfz38_2, hfz38_3, hfz38_4⟩ := bf5 BK309.out
   go_wp2_with (first | ((with_reducible refine gate_callee (f := 18) rfl ?_); refine goesL_ (some 11) rfl rfl Try.func18 (by kernel_rfl) rfl #[.agg #[.int .i64 a0_0, .int .i64 a0_1, .int .i64 a0_2, .int .i64 a0_3, .int .i64 a0_4]] rfl (by (try simp only [List.map_toArray, List.map_cons, List.map_nil]); first | done | rfl | (simp only [List.length_drop, List.length_take]; rfl)) ?_; (with_reducible refine (spec_BrakesOk.calls a0_0 a0_1 a0_2 a0_3 a0_4 false _ A9.out).mono ?_); rintro e w39 ⟨rfl, hb⟩; refine ⟨_, rfl, ?_⟩; have n0_ := MK (blk_below (by (with_reducible repeat (first | refine bN ?_ _ | refine bD ?_ | refine bA ?_ _)); exact BK309.out) hb); have n1_ := MK (blk_below (by (with_reducible repeat (first | refine bN ?_ _ | refine bD ?_ | refine bA ?_ _)); exact BK310.out) hb); have n2_ := MK (blk_below (by (with_reducible repeat (first | refine bN ?_ _ | refine bD ?_ | refine bA ?_ _)); exact BK311.out) hb); have n3_ := MK (blk_below (by (with_reducible repeat (first | refine bN ?_ _ | refine bD ?_ | refine bA ?_ _)); exact BK312.out) hb); have n4_ := MK (below_step (by repeat (first | (with_reducible first | exact HB.out | apply lA | apply lN | apply lD | refine lS ?_ GE309.out | refine lS ?_ GE310.out | refine lS ?_ GE311.out | refine lS ?_ GE312.out) | exact HB.out)) hb); clear BK309; clear BK310; clear BK311; clear BK312; clear HB; have BK309 := n0_; have BK310 := n1_; have BK311 := n2_; have BK312 := n3_; have HB := n4_; clear n0_ n1_ n2_ n3_ n4_; (try clear hb); (try clear hb2); (try clear hk); (try clear hi)))
   go_meet
   case rel => exact ⟨_, (true), (by first | rfl | (simp; done) | (simp [*]; done)), H', ⟨by first | omega | exact Nat.le_refl _⟩, ⟨by (with_reducible repeat (first | refine bN ?_ _ | refine bD ?_ | refine bA ?_ _)); exact BK309.out⟩, ⟨by (with_reducible repeat (first | refine bN ?_ _ | refine bD ?_ | refine bA ?_ _)); exact BK310.out⟩, ⟨by (with_reducible repeat (first | refine bN ?_ _ | refine bD ?_ | refine bA ?_ _)); exact BK311.out⟩, ⟨by (with_reducible repeat (first | refine bN ?_ _ | refine bD ?_ | refine bA ?_ _)); exact BK312.out⟩, ⟨by repeat (first | (with_reducible first | exact HB.out | apply lA | apply lN | apply lD | refine lS ?_ GE309.out | refine lS ?_ GE310.out | refine lS ?_ GE311.out | refine lS ?_ GE312.out) | exact HB.out)⟩⟩
 case rest =>
  clear HC4
  obtain ⟨kq, x22_3, rfl, HA, HJ3, BK309, BK310, BK311, BK312, HB⟩ := hcut
  cases kq with
  | zero => exact absurd HA.out (by simp [spec_Tick.j0])
  | succ kj3 =>
   have H := HA.out
   clear HA
   simp only [spec_Tick.j0] at H
   by_cases c40 : x22_3 = true
   ·subst c40
    have H1 : (some (false, 0, 0, 0, false, false)) = some (r1, r2, r3, r4, r5, r6) := by rw [if_pos rfl] at H; exact H
    clear H
    have H := H1
    clear H1
    simp only [Option.some.injEq, Prod.mk.injEq] at H
    obtain ⟨rfl, rfl, rfl, rfl, rfl, rfl⟩ := H
    have hnb41 := NB312_309.out
    have hnc41 := NB309_312.out
    have hnb42 := NB312_310.out
    have hnc42 := NB310_312.out
    have hnb43 := NB312_311.out
    have hnc43 := NB311_312.out
    obtain ⟨hcz44_0, hcz44_1, hcz44_2, hcz44_3, hcz44_4, hcz44_5⟩ := bc6 BK312.out
    obtain ⟨hfz44_0, hfz44_1, hfz44_2, hfz44_3, hfz44_4, hfz44_5⟩ := bf6 BK312.out
    go_wp2
    refine bodyPost_ret (results_cell_row rfl _ _ gb312 52 #[.bool false, .int .i64 0, .int .i64 0, .int .i64 0, .bool false, .bool false] (0, 0) _ rfl (by (with_reducible repeat (first | refine bN ?_ _ | refine bD ?_ | refine bA ?_ _)); refine blk_put (cs := #[.bool false, .int .i64 0, .int .i64 0, .int .i64 0, .bool false, .bool false]) ?_ 5 _ rfl; (with_reducible repeat (first | refine bN ?_ _ | refine bD ?_ | refine bA ?_ _)); refine blk_put (cs := #[.bool false, .int .i64 0, .int .i64 0, .int .i64 0, .bool false, .bool false]) ?_ 4 _ rfl; (with_reducible repeat (first | refine bN ?_ _ | refine bD ?_ | refine bA ?_ _)); refine blk_put (cs := #[.bool false, .int .i64 0, .int .i64 0, .int .i64 0, .bool false, .bool false]) ?_ 3 _ rfl; (with_reducible repeat (first | refine bN ?_ _ | refine bD ?_ | refine bA ?_ _)); refine blk_put (cs := #[.bool false, .int .i64 0, .int .i64 0, .int .i64 0, .bool false, .bool false]) ?_ 2 _ rfl; (with_reducible repeat (first | refine bN ?_ _ | refine bD ?_ | refine bA ?_ _)); refine blk_put (cs := #[.bool false, .int .i64 0, .int .i64 0, .int .i64 0, .bool false, .bool false]) ?_ 1 _ rfl; (with_reducible repeat (first | refine bN ?_ _ | refine bD ?_ | refine bA ?_ _)); refine blk_put (cs := #[.bool false, .int .i64 0, .int .i64 0, .int .i64 0, .bool false, .bool false]) ?_ 0 _ rfl; (with_reducible repeat (first | refine bN ?_ _ | refine bD ?_ | refine bA ?_ _)); exact BK312.out) Try.underlying52 rfl (by kernel_rfl)) rfl ?_
    exact ⟨by first | rfl | (simp [errW_none, errW_some] <;> rfl) | (simp [*, errW_none, errW_some] <;> rfl), by repeat (first | (with_reducible first | exact HB.out | apply lA | apply lN | apply lD | refine lS ?_ GE309.out | refine lS ?_ GE310.out | refine lS ?_ GE311.out | refine lS ?_ GE312.out) | exact HB.out)⟩
   ·replace c40 := Bool.eq_false_iff.mpr c40
    subst c40
    have H1 : (if a2_2 = a1_1 then (spec_Tick.j1 kj3 a0_0 a0_1 a0_2 a0_3 a0_4 a1_0 a1_1 a2_0 a2_1 a2_2 a2_3 a2_4 true a1_0 a1_1 0 false false) else (if a2_2 > a1_1 then (spec_Tick.j1 kj3 a0_0 a0_1 a0_2 a0_3 a0_4 a1_0 a1_1 a2_0 a2_1 a2_2 a2_3 a2_4 true a1_0 a2_2 0 true true) else ((spec_l2keeps.f kj3 a0_0 a0_1 a0_2 a0_3 a0_4 a2_0 a2_1 a2_2 a2_3 a2_4 a2_2).bind fun t317 => (spec_Tick.j1 kj3 a0_0 a0_1 a0_2 a0_3 a0_4 a1_0 a1_1 a2_0 a2_1 a2_2 a2_3 a2_4 true a1_0 a2_2 0 t317 true)))) = some (r1, r2, r3, r4, r5, r6) := by rw [if_neg (show ¬ (false = true) by decide)] at H; exact H
    clear H
    have H := H1
    clear H1
    have HC45 := MK H
    clear H
    have hnb46 := NB310_309.out
    have hnc46 := NB309_310.out
    have hnb47 := NB310_311.out
    have hnc47 := NB311_310.out
    have hnb48 := NB310_312.out
    have hnc48 := NB312_310.out
    obtain ⟨hcz49_0, hcz49_1⟩ := bc2 BK310.out
    obtain ⟨hfz49_0, hfz49_1⟩ := bf2 BK310.out
    go_upto_if 30 with (first | ((with_reducible refine gate_dst (N := 7) rfl ?_); refine box_event ?hg (N := 7) ?hd (cs := #[.bool false, .int .i64 0, .int .i64 0, .int .i64 0, .bool false, .bool false]) (t := 52) ?hr ?_; (case hd => rfl); (case hg => rfl); (case hr => first | (go_simp; done) | (go_simp; rfl)); intro gb316 hg w50 hbox hb; have n0_ := MK (blk_below (by (with_reducible repeat (first | refine bN ?_ _ | refine bD ?_ | refine bA ?_ _)); exact BK309.out) hb); have n1_ := MK (blk_below (by (with_reducible repeat (first | refine bN ?_ _ | refine bD ?_ | refine bA ?_ _)); exact BK310.out) hb); have n2_ := MK (blk_below (by (with_reducible repeat (first | refine bN ?_ _ | refine bD ?_ | refine bA ?_ _)); exact BK311.out) hb); have n3_ := MK (blk_below (by (with_reducible repeat (first | refine bN ?_ _ | refine bD ?_ | refine bA ?_ _)); exact BK312.out) hb); have n4_ := MK (below_step (by repeat (first | (with_reducible first | exact HB.out | apply lA | apply lN | apply lD | refine lS ?_ GE309.out | refine lS ?_ GE310.out | refine lS ?_ GE311.out | refine lS ?_ GE312.out) | exact HB.out)) hb); have n5_ := MK (hbox); have n6_ := MK ((by rw [hg]; exact (below_size (by repeat (first | (with_reducible first | exact HB.out | apply lA | apply lN | apply lD | refine lS ?_ GE309.out | refine lS ?_ GE310.out | refine lS ?_ GE311.out | refine lS ?_ GE312.out) | exact HB.out))) : w.heap.size ≤ gb316)); have n7_ := MK ((by rw [hg]; exact (below_size (by repeat (first | (with_reducible first | exact HB.out | apply lA | apply lN | apply lD | refine lS ?_ GE309.out | refine lS ?_ GE310.out | refine lS ?_ GE311.out | refine lS ?_ GE312.out) | exact HB.out))) : w.heap.size ≤ gb316)); have n8_ := MK ((by rw [hg]; exact Nat.ne_of_lt (blk_lt (by (with_reducible repeat (first | refine bN ?_ _ | refine bD ?_ | refine bA ?_ _)); exact BK309.out)) : gb309 ≠ gb316)); have n9_ := MK ((by rw [hg]; exact Nat.ne_of_gt (blk_lt (by (with_reducible repeat (first | refine bN ?_ _ | refine bD ?_ | refine bA ?_ _)); exact BK309.out)) : gb316 ≠ gb309)); have n10_ := MK ((by rw [hg]; exact Nat.ne_of_lt (blk_lt (by (with_reducible repeat (first | refine bN ?_ _ | refine bD ?_ | refine bA ?_ _)); exact BK310.out)) : gb310 ≠ gb316)); have n11_ := MK ((by rw [hg]; exact Nat.ne_of_gt (blk_lt (by (with_reducible repeat (first | refine bN ?_ _ | refine bD ?_ | refine bA ?_ _)); exact BK310.out)) : gb316 ≠ gb310)); have n12_ := MK ((by rw [hg]; exact Nat.ne_of_lt (blk_lt (by (with_reducible repeat (first | refine bN ?_ _ | refine bD ?_ | refine bA ?_ _)); exact BK311.out)) : gb311 ≠ gb316)); have n13_ := MK ((by rw [hg]; exact Nat.ne_of_gt (blk_lt (by (with_reducible repeat (first | refine bN ?_ _ | refine bD ?_ | refine bA ?_ _)); exact BK311.out)) : gb316 ≠ gb311)); have n14_ := MK ((by rw [hg]; exact Nat.ne_of_lt (blk_lt (by (with_reducible repeat (first | refine bN ?_ _ | refine bD ?_ | refine bA ?_ _)); exact BK312.out)) : gb312 ≠ gb316)); have n15_ := MK ((by rw [hg]; exact Nat.ne_of_gt (blk_lt (by (with_reducible repeat (first | refine bN ?_ _ | refine bD ?_ | refine bA ?_ _)); exact BK312.out)) : gb316 ≠ gb312)); clear BK309; clear BK310; clear BK311; clear BK312; clear HB; have BK309 := n0_; have BK310 := n1_; have BK311 := n2_; have BK312 := n3_; have HB := n4_; have BK316 := n5_; have GW316 := n6_; have GE316 := n7_; have NB309_316 := n8_; have NB316_309 := n9_; have NB310_316 := n10_; have NB316_310 := n11_; have NB311_316 := n12_; have NB316_311 := n13_; have NB312_316 := n14_; have NB316_312 := n15_; clear n0_ n1_ n2_ n3_ n4_ n5_ n6_ n7_ n8_ n9_ n10_ n11_ n12_ n13_ n14_ n15_; clear hb hbox hg; have hnb51 := NB316_309.out; have hnc51 := NB309_316.out; have hnb52 := NB316_310.out; have hnc52 := NB310_316.out; have hnb53 := NB316_311.out; have hnc53 := NB311_316.out; have hnb54 := NB316_312.out; have hnc54 := NB312_316.out; obtain ⟨hcz55_0, hcz55_1, hcz55_2, hcz55_3, hcz55_4, hcz55_5⟩ := bc6 BK316.out; obtain ⟨hfz55_0, hfz55_1, hfz55_2, hfz55_3, hfz55_4, hfz55_5⟩ := bf6 BK316.out; have hnb56 := NB311_309.out; have hnc56 := NB309_311.out; have hnb57 := NB311_312.out; have hnc57 := NB312_311.out; obtain ⟨hcz58_0, hcz58_1, hcz58_2, hcz58_3, hcz58_4⟩ := bc5 BK311.out; obtain ⟨hfz58_0, hfz58_1, hfz58_2, hfz58_3, hfz58_4⟩ := bf5 BK311.out; obtain ⟨hcz59_0, hcz59_1⟩ := bc2 BK310.out; obtain ⟨hfz59_0, hfz59_1⟩ := bf2 BK310.out))
    (try simp only [Act.put, List.setIfInBounds_toArray, List.set_cons_zero, List.set_cons_succ])
    go_cut [] (fun wc => ∃ (kq : Nat) (x317002_44 : Int) (x317004_44 : Bool) (x317005_44 : Bool), Aside0 (spec_Tick.j1 kq a0_0 a0_1 a0_2 a0_3 a0_4 a1_0 a1_1 a2_0 a2_1 a2_2 a2_3 a2_4 true a1_0 x317002_44 0 x317004_44 x317005_44 = some (r1, r2, r3, r4, r5, r6)) ∧ Aside0 (kq ≤ kj3) ∧ Aside0 (wc.heap[gb309]? = some (.cells #[.int .i64 a0_0, .int .i64 a0_1, .int .i64 a0_2, .int .i64 a0_3, .int .i64 a0_4] 32 (0, 0))) ∧ Aside0 (wc.heap[gb310]? = some (.cells #[.int .i64 a1_0, .int .i64 a1_1] 26 (0, 0))) ∧ Aside0 (wc.heap[gb311]? = some (.cells #[.int .i64 a2_0, .int .i64 a2_1, .int .i64 a2_2, .int .i64 a2_3, .bool a2_4] 38 (0, 0))) ∧ Aside0 (wc.heap[gb312]? = some (.cells #[.bool false, .int .i64 0, .int .i64 0, .int .i64 0, .bool false, .bool false] 52 (0, 0))) ∧ Aside0 (wc.heap[gb316]? = some (.cells #[.bool true, .int .i64 a1_0, .int .i64 x317002_44, .int .i64 0, .bool x317004_44, .bool x317005_44] 52 (0, 0))) ∧ Aside0 (Below w.heap.size w wc))
    case first =>
     have H := HC45.out
     clear HC45
     by_cases c60 : a2_2 = a1_1
     ·rw [if_pos c60] at H
      have c60b0 : (a2_2 == a1_1) = true := beq_iff_eq.mpr c60
      have c60b1 : (a2_2 != a1_1) = false := bne_eq_false_iff_eq.mpr c60
      clear c60
      (first | rw [c60b0] | (simp only [i64_w, i32_w]; rw [c60b0]) | rw [c60b1] | skip)
      have H' := MK H
      clear H
      go_wp2
      go_meet
      case rel => exact ⟨_, (a1_1), (false), (false), H', ⟨by have := HJ3.out; first | omega | exact Nat.le_refl _⟩, ⟨by (with_reducible repeat (first | refine bN ?_ _ | refine bD ?_ | refine bA ?_ _)); refine blk_far ?_ NB309_316.out _; (with_reducible repeat (first | refine bN ?_ _ | refine bD ?_ | refine bA ?_ _)); refine blk_far ?_ NB309_316.out _; (with_reducible repeat (first | refine bN ?_ _ | refine bD ?_ | refine bA ?_ _)); refine blk_far ?_ NB309_316.out _; (with_reducible repeat (first | refine bN ?_ _ | refine bD ?_ | refine bA ?_ _)); refine blk_far ?_ NB309_316.out _; (with_reducible repeat (first | refine bN ?_ _ | refine bD ?_ | refine bA ?_ _)); refine blk_far ?_ NB309_316.out _; (with_reducible repeat (first | refine bN ?_ _ | refine bD ?_ | refine bA ?_ _)); refine blk_far ?_ NB309_316.out _; (with_reducible repeat (first | refine bN ?_ _ | refine bD ?_ | refine bA ?_ _)); exact BK309.out⟩, ⟨by (with_reducible repeat (first | refine bN ?_ _ | refine bD ?_ | refine bA ?_ _)); refine blk_far ?_ NB310_316.out _; (with_reducible repeat (first | refine bN ?_ _ | refine bD ?_ | refine bA ?_ _)); refine blk_far ?_ NB310_316.out _; (with_reducible repeat (first | refine bN ?_ _ | refine bD ?_ | refine bA ?_ _)); refine blk_far ?_ NB310_316.out _; (with_reducible repeat (first | refine bN ?_ _ | refine bD ?_ | refine bA ?_ _)); refine blk_far ?_ NB310_316.out _; (with_reducible repeat (first | refine bN ?_ _ | refine bD ?_ | refine bA ?_ _)); refine blk_far ?_ NB310_316.out _; (with_reducible repeat (first | refine bN ?_ _ | refine bD ?_ | refine bA ?_ _)); refine blk_far ?_ NB310_316.out _; (with_reducible repeat (first | refine bN ?_ _ | refine bD ?_ | refine bA ?_ _)); exact BK310.out⟩, ⟨by (with_reducible repeat (first | refine bN ?_ _ | refine bD ?_ | refine bA ?_ _)); refine blk_far ?_ NB311_316.out _; (with_reducible repeat (first | refine bN ?_ _ | refine bD ?_ | refine bA ?_ _)); refine blk_far ?_ NB311_316.out _; (with_reducible repeat (first | refine bN ?_ _ | refine bD ?_ | refine bA ?_ _)); refine blk_far ?_ NB311_316.out _; (with_reducible repeat (first | refine bN ?_ _ | refine bD ?_ | refine bA ?_ _)); refine blk_far ?_ NB311_316.out _; (with_reducible repeat (first | refine bN ?_ _ | refine bD ?_ | refine bA ?_ _)); refine blk_far ?_ NB311_316.out _; (with_reducible repeat (first | refine bN ?_ _ | refine bD ?_ | refine bA ?_ _)); refine blk_far ?_ NB311_316.out _; (with_reducible repeat (first | refine bN ?_ _ | refine bD ?_ | refine bA ?_ _)); exact BK311.out⟩, ⟨by (with_reducible repeat (first | refine bN ?_ _ | refine bD ?_ | refine bA ?_ _)); refine blk_far ?_ NB312_316.out _; (with_reducible repeat (first | refine bN ?_ _ | refine bD ?_ | refine bA ?_ _)); refine blk_far ?_ NB312_316.out _; (with_reducible repeat (first | refine bN ?_ _ | refine bD ?_ | refine bA ?_ _)); refine blk_far ?_ NB312_316.out _; (with_reducible repeat (first | refine bN ?_ _ | refine bD ?_ | refine bA ?_ _)); refine blk_far ?_ NB312_316.out _; (with_reducible repeat (first | refine bN ?_ _ | refine bD ?_ | refine bA ?_ _)); refine blk_far ?_ NB312_316.out _; (with_reducible repeat (first | refine bN ?_ _ | refine bD ?_ | refine bA ?_ _)); refine blk_far ?_ NB312_316.out _; (with_reducible repeat (first | refine bN ?_ _ | refine bD ?_ | refine bA ?_ _)); exact BK312.out⟩, ⟨by (with_reducible repeat (first | refine bN ?_ _ | refine bD ?_ | refine bA ?_ _)); refine blk_put (cs := #[.bool true, .int .i64 a1_0, .int .i64 a1_1, .int .i64 0, .bool false, .bool false]) ?_ 5 _ rfl; (with_reducible repeat (first | refine bN ?_ _ | refine bD ?_ | refine bA ?_ _)); refine blk_put (cs := #[.bool true, .int .i64 a1_0, .int .i64 a1_1, .int .i64 0, .bool false, .bool false]) ?_ 4 _ rfl; (with_reducible repeat (first | refine bN ?_ _ | refine bD ?_ | refine bA ?_ _)); refine blk_put (cs := #[.bool true, .int .i64 a1_0, .int .i64 a1_1, .int .i64 0, .bool false, .bool false]) ?_ 3 _ rfl; (with_reducible repeat (first | refine bN ?_ _ | refine bD ?_ | refine bA ?_ _)); refine blk_put (cs := #[.bool true, .int .i64 a1_0, .int .i64 0, .int .i64 0, .bool false, .bool false]) ?_ 2 _ rfl; (with_reducible repeat (first | refine bN ?_ _ | refine bD ?_ | refine bA ?_ _)); refine blk_put (cs := #[.bool true, .int .i64 0, .int .i64 0, .int .i64 0, .bool false, .bool false]) ?_ 1 _ rfl; (with_reducible repeat (first | refine bN ?_ _ | refine bD ?_ | refine bA ?_ _)); refine blk_put (cs := #[.bool false, .int .i64 0, .int .i64 0, .int .i64 0, .bool false, .bool false]) ?_ 0 _ rfl; (with_reducible repeat (first | refine bN ?_ _ | refine bD ?_ | refine bA ?_ _)); exact BK316.out⟩, ⟨by repeat (first | (with_reducible first | exact HB.out | apply lA | apply lN | apply lD | refine lS ?_ GE309.out | refine lS ?_ GE310.out | refine lS ?_ GE311.out | refine lS ?_ GE312.out | refine lS ?_ GE316.out) | exact HB.out)⟩⟩
     ·rw [if_neg c60] at H
      have c60b0 : (a2_2 == a1_1) = false := beq_eq_false_iff_ne.mpr c60
      have c60b1 : (a2_2 != a1_1) = true := bne_iff_ne.mpr c60
      (first | rw [c60b0] | (simp only [i64_w, i32_w]; rw [c60b0]) | rw [c60b1] | skip)
      by_cases c61 : a2_2 > a1_1
      ·rw [if_pos c61] at H
       have c61b0 : decide (a1_1 < a2_2) = true := decide_eq_true c61
       clear c61
       have H' := MK H
       clear H
       have hnb62 := NB316_309.out
       have hnc62 := NB309_316.out
       have hnb63 := NB316_310.out
       have hnc63 := NB310_316.out
       have hnb64 := NB316_311.out
       have hnc64 := NB311_316.out
       have hnb65 := NB316_312.out
       have hnc65 := NB312_316.out
       obtain ⟨hcz66_0, hcz66_1, hcz66_2, hcz66_3, hcz66_4, hcz66_5⟩ := bc6 BK316.out
       obtain ⟨hfz66_0, hfz66_1, hfz66_2, hfz66_3, hfz66_4, hfz66_5⟩ := bf6 BK316.out
       have hnb67 := NB311_309.out
       have hnc67 := NB309_311.out
       have hnb68 := NB311_310.out
       have hnc68 := NB310_311.out
       have hnb69 := NB311_312.out
       have hnc69 := NB312_311.out
       obtain ⟨hcz70_0, hcz70_1, hcz70_2, hcz70_3, hcz70_4⟩ := bc5 BK311.out
       obtain ⟨hfz70_0, hfz70_1, hfz70_2, hfz70_3, hfz70_4⟩ := bf5 BK311.out
       have hnb71 := NB310_309.out
       have hnc71 := NB309_310.out
       have hnb72 := NB310_312.out
       have hnc72 := NB312_310.out
       obtain ⟨hcz73_0, hcz73_1⟩ := bc2 BK310.out
       obtain ⟨hfz73_0, hfz73_1⟩ := bf2 BK310.out
       go_wp2
       go_meet
       case rel => exact ⟨_, (a2_2), (true), (true), H', ⟨by have := HJ3.out; first | omega | exact Nat.le_refl _⟩, ⟨by (with_reducible repeat (first | refine bN ?_ _ | refine bD ?_ | refine bA ?_ _)); refine blk_far ?_ NB309_316.out _; (with_reducible repeat (first | refine bN ?_ _ | refine bD ?_ | refine bA ?_ _)); refine blk_far ?_ NB309_316.out _; (with_reducible repeat (first | refine bN ?_ _ | refine bD ?_ | refine bA ?_ _)); refine blk_far ?_ NB309_316.out _; (with_reducible repeat (first | refine bN ?_ _ | refine bD ?_ | refine bA ?_ _)); refine blk_far ?_ NB309_316.out _; (with_reducible repeat (first | refine bN ?_ _ | refine bD ?_ | refine bA ?_ _)); refine blk_far ?_ NB309_316.out _; (with_reducible repeat (first | refine bN ?_ _ | refine bD ?_ | refine bA ?_ _)); refine blk_far ?_ NB309_316.out _; (with_reducible repeat (first | refine bN ?_ _ | refine bD ?_ | refine bA ?_ _)); refine blk_far ?_ NB309_316.out _; (with_reducible repeat (first | refine bN ?_ _ | refine bD ?_ | refine bA ?_ _)); refine blk_far ?_ NB309_316.out _; (with_reducible repeat (first | refine bN ?_ _ | refine bD ?_ | refine bA ?_ _)); refine blk_far ?_ NB309_316.out _; (with_reducible repeat (first | refine bN ?_ _ | refine bD ?_ | refine bA ?_ _)); exact BK309.out⟩, ⟨by (with_reducible repeat (first | refine bN ?_ _ | refine bD ?_ | refine bA ?_ _)); refine blk_far ?_ NB310_316.out _; (with_reducible repeat (first | refine bN ?_ _ | refine bD ?_ | refine bA ?_ _)); refine blk_far ?_ NB310_316.out _; (with_reducible repeat (first | refine bN ?_ _ | refine bD ?_ | refine bA ?_ _)); refine blk_far ?_ NB310_316.out _; (with_reducible repeat (first | refine bN ?_ _ | refine bD ?_ | refine bA ?_ _)); refine blk_far ?_ NB310_316.out _; (with_reducible repeat (first | refine bN ?_ _ | refine bD ?_ | refine bA ?_ _)); refine blk_far ?_ NB310_316.out _; (with_reducible repeat (first | refine bN ?_ _ | refine bD ?_ | refine bA ?_ _)); refine blk_far ?_ NB310_316.out _; (with_reducible repeat (first | refine bN ?_ _ | refine bD ?_ | refine bA ?_ _)); refine blk_far ?_ NB310_316.out _; (with_reducible repeat (first | refine bN ?_ _ | refine bD ?_ | refine bA ?_ _)); refine blk_far ?_ NB310_316.out _; (with_reducible repeat (first | refine bN ?_ _ | refine bD ?_ | refine bA ?_ _)); refine blk_far ?_ NB310_316.out _; (with_reducible repeat (first | refine bN ?_ _ | refine bD ?_ | refine bA ?_ _)); exact BK310.out⟩, ⟨by (with_reducible repeat (first | refine bN ?_ _ | refine bD ?_ | refine bA ?_ _)); refine blk_far ?_ NB311_316.out _; (with_reducible repeat (first | refine bN ?_ _ | refine bD ?_ | refine bA ?_ _)); refine blk_far ?_ NB311_316.out _; (with_reducible repeat (first | refine bN ?_ _ | refine bD ?_ | refine bA ?_ _)); refine blk_far ?_ NB311_316.out _; (with_reducible repeat (first | refine bN ?_ _ | refine bD ?_ | refine bA ?_ _)); refine blk_far ?_ NB311_316.out _; (with_reducible repeat (first | refine bN ?_ _ | refine bD ?_ | refine bA ?_ _)); refine blk_far ?_ NB311_316.out _; (with_reducible repeat (first | refine bN ?_ _ | refine bD ?_ | refine bA ?_ _)); refine blk_far ?_ NB311_316.out _; (with_reducible repeat (first | refine bN ?_ _ | refine bD ?_ | refine bA ?_ _)); refine blk_far ?_ NB311_316.out _; (with_reducible repeat (first | refine bN ?_ _ | refine bD ?_ | refine bA ?_ _)); refine blk_far ?_ NB311_316.out _; (with_reducible repeat (first | refine bN ?_ _ | refine bD ?_ | refine bA ?_ _)); refine blk_far ?_ NB311_316.out _; (with_reducible repeat (first | refine bN ?_ _ | refine bD ?_ | refine bA ?_ _)); exact BK311.out⟩, ⟨by (with_reducible repeat (first | refine bN ?_ _ | refine bD ?_ | refine bA ?_ _)); refine blk_far ?_ NB312_316.out _; (with_reducible repeat (first | refine bN ?_ _ | refine bD ?_ | refine bA ?_ _)); refine blk_far ?_ NB312_316.out _; (with_reducible repeat (first | refine bN ?_ _ | refine bD ?_ | refine bA ?_ _)); refine blk_far ?_ NB312_316.out _; (with_reducible repeat (first | refine bN ?_ _ | refine bD ?_ | refine bA ?_ _)); refine blk_far ?_ NB312_316.out _; (with_reducible repeat (first | refine bN ?_ _ | refine bD ?_ | refine bA ?_ _)); refine blk_far ?_ NB312_316.out _; (with_reducible repeat (first | refine bN ?_ _ | refine bD ?_ | refine bA ?_ _)); refine blk_far ?_ NB312_316.out _; (with_reducible repeat (first | refine bN ?_ _ | refine bD ?_ | refine bA ?_ _)); refine blk_far ?_ NB312_316.out _; (with_reducible repeat (first | refine bN ?_ _ | refine bD ?_ | refine bA ?_ _)); refine blk_far ?_ NB312_316.out _; (with_reducible repeat (first | refine bN ?_ _ | refine bD ?_ | refine bA ?_ _)); refine blk_far ?_ NB312_316.out _; (with_reducible repeat (first | refine bN ?_ _ | refine bD ?_ | refine bA ?_ _)); exact BK312.out⟩, ⟨by (with_reducible repeat (first | refine bN ?_ _ | refine bD ?_ | refine bA ?_ _)); refine blk_put (cs := #[.bool true, .int .i64 a1_0, .int .i64 a1_1, .int .i64 0, .bool true, .bool true]) ?_ 2 _ rfl; (with_reducible repeat (first | refine bN ?_ _ | refine bD ?_ | refine bA ?_ _)); refine blk_put (cs := #[.bool true, .int .i64 a1_0, .int .i64 a1_1, .int .i64 0, .bool false, .bool true]) ?_ 4 _ rfl; (with_reducible repeat (first | refine bN ?_ _ | refine bD ?_ | refine bA ?_ _)); refine blk_put (cs := #[.bool true, .int .i64 a1_0, .int .i64 a1_1, .int .i64 0, .bool false, .bool false]) ?_ 5 _ rfl; (with_reducible repeat (first | refine bN ?_ _ | refine bD ?_ | refine bA ?_ _)); refine blk_put (cs := #[.bool true, .int .i64 a1_0, .int .i64 a1_1, .int .i64 0, .bool false, .bool false]) ?_ 5 _ rfl; (with_reducible repeat (first | refine bN ?_ _ | refine bD ?_ | refine bA ?_ _)); refine blk_put (cs := #[.bool true, .int .i64 a1_0, .int .i64 a1_1, .int .i64 0, .bool false, .bool false]) ?_ 4 _ rfl; (with_reducible repeat (first | refine bN ?_ _ | refine bD ?_ | refine bA ?_ _)); refine blk_put (cs := #[.bool true, .int .i64 a1_0, .int .i64 a1_1, .int .i64 0, .bool false, .bool false]) ?_ 3 _ rfl; (with_reducible repeat (first | refine bN ?_ _ | refine bD ?_ | refine bA ?_ _)); refine blk_put (cs := #[.bool true, .int .i64 a1_0, .int .i64 0, .int .i64 0, .bool false, .bool false]) ?_ 2 _ rfl; (with_reducible repeat (first | refine bN ?_ _ | refine bD ?_ | refine bA ?_ _)); refine blk_put (cs := #[.bool true, .int .i64 0, .int .i64 0, .int .i64 0, .bool false, .bool false]) ?_ 1 _ rfl; (with_reducible repeat (first | refine bN ?_ _ | refine bD ?_ | refine bA ?_ _)); refine blk_put (cs := #[.bool false, .int .i64 0, .int .i64 0, .int .i64 0, .bool false, .bool false]) ?_ 0 _ rfl; (with_reducible repeat (first | refine bN ?_ _ | refine bD ?_ | refine bA ?_ _)); exact BK316.out⟩, ⟨by repeat (first | (with_reducible first | exact HB.out | apply lA | apply lN | apply lD | refine lS ?_ GE309.out | refine lS ?_ GE310.out | refine lS ?_ GE311.out | refine lS ?_ GE312.out | refine lS ?_ GE316.out) | exact HB.out)⟩⟩
      ·rw [if_neg c61] at H
       have c61b0 : decide (a1_1 < a2_2) = false := decide_eq_false c61
       clear c61
       replace H := Option.bind_eq_some_iff.mp H
       obtain ⟨t317, A740, H⟩ := H
       replace H : (spec_Tick.j1 kj3 a0_0 a0_1 a0_2 a0_3 a0_4 a1_0 a1_1 a2_0 a2_1 a2_2 a2_3 a2_4 true a1_0 a2_2 0 t317 true) = some (r1, r2, r3, r4, r5, r6) := H
       have A74 := MK A740
       clear A740
       have H' := MK H
       clear H
       have hnb75 := NB316_309.out
       have hnc75 := NB309_316.out
       have hnb76 := NB316_310.out
       have hnc76 := NB310_316.out
       have hnb77 := NB316_311.out
       have hnc77 := NB311_316.out
       have hnb78 := NB316_312.out
       have hnc78 := NB312_316.out
       obtain ⟨hcz79_0, hcz79_1, hcz79_2, hcz79_3, hcz79_4, hcz79_5⟩ := bc6 BK316.out
       obtain ⟨hfz79_0, hfz79_1, hfz79_2, hfz79_3, hfz79_4, hfz79_5⟩ := bf6 BK316.out
       have hnb80 := NB311_309.out
       have hnc80 := NB309_311.out
       have hnb81 := NB311_310.out
       have hnc81 := NB310_311.out
       have hnb82 := NB311_312.out
       have hnc82 := NB312_311.out
       obtain ⟨hcz83_0, hcz83_1, hcz83_2, hcz83_3, hcz83_4⟩ := bc5 BK311.out
       obtain ⟨hfz83_0, hfz83_1, hfz83_2, hfz83_3, hfz83_4⟩ := bf5 BK311.out
       have hnb84 := NB310_309.out
       have hnc84 := NB309_310.out
       have hnb85 := NB310_312.out
       have hnc85 := NB312_310.out
       obtain ⟨hcz86_0, hcz86_1⟩ := bc2 BK310.out
       obtain ⟨hfz86_0, hfz86_1⟩ := bf2 BK310.out
       have hnb87 := NB309_312.out
       have hnc87 := NB312_309.out
       obtain ⟨hcz88_0, hcz88_1, hcz88_2, hcz88_3, hcz88_4⟩ := bc5 BK309.out
       obtain ⟨hfz88_0, hfz88_1, hfz88_2, hfz88_3, hfz88_4⟩ := bf5 BK309.out
       go_wp2_with (first | (go_at_call 67; (with_reducible refine (spec_l2keeps.calls kj3 a0_0 a0_1 a0_2 a0_3 a0_4 a2_0 a2_1 a2_2 a2_3 a2_4 a2_2 t317 _ A74.out).mono ?_); rintro e w89 ⟨rfl, hb⟩; have n0_ := MK (blk_below (g := gb309) (o := .cells #[.int .i64 a0_0, .int .i64 a0_1, .int .i64 a0_2, .int .i64 a0_3, .int .i64 a0_4] 32 (0, 0)) (by (with_reducible repeat (first | refine bN ?_ _ | refine bD ?_ | refine bA ?_ _)); refine blk_far ?_ NB309_316.out _; (with_reducible repeat (first | refine bN ?_ _ | refine bD ?_ | refine bA ?_ _)); refine blk_far ?_ NB309_316.out _; (with_reducible repeat (first | refine bN ?_ _ | refine bD ?_ | refine bA ?_ _)); refine blk_far ?_ NB309_316.out _; (with_reducible repeat (first | refine bN ?_ _ | refine bD ?_ | refine bA ?_ _)); refine blk_far ?_ NB309_316.out _; (with_reducible repeat (first | refine bN ?_ _ | refine bD ?_ | refine bA ?_ _)); refine blk_far ?_ NB309_316.out _; (with_reducible repeat (first | refine bN ?_ _ | refine bD ?_ | refine bA ?_ _)); refine blk_far ?_ NB309_316.out _; (with_reducible repeat (first | refine bN ?_ _ | refine bD ?_ | refine bA ?_ _)); refine blk_far ?_ NB309_316.out _; (with_reducible repeat (first | refine bN ?_ _ | refine bD ?_ | refine bA ?_ _)); exact BK309.out) hb); have n1_ := MK (blk_below (g := gb310) (o := .cells #[.int .i64 a1_0, .int .i64 a1_1] 26 (0, 0)) (by (with_reducible repeat (first | refine bN ?_ _ | refine bD ?_ | refine bA ?_ _)); refine blk_far ?_ NB310_316.out _; (with_reducible repeat (first | refine bN ?_ _ | refine bD ?_ | refine bA ?_ _)); refine blk_far ?_ NB310_316.out _; (with_reducible repeat (first | refine bN ?_ _ | refine bD ?_ | refine bA ?_ _)); refine blk_far ?_ NB310_316.out _; (with_reducible repeat (first | refine bN ?_ _ | refine bD ?_ | refine bA ?_ _)); refine blk_far ?_ NB310_316.out _; (with_reducible repeat (first | refine bN ?_ _ | refine bD ?_ | refine bA ?_ _)); refine blk_far ?_ NB310_316.out _; (with_reducible repeat (first | refine bN ?_ _ | refine bD ?_ | refine bA ?_ _)); refine blk_far ?_ NB310_316.out _; (with_reducible repeat (first | refine bN ?_ _ | refine bD ?_ | refine bA ?_ _)); refine blk_far ?_ NB310_316.out _; (with_reducible repeat (first | refine bN ?_ _ | refine bD ?_ | refine bA ?_ _)); exact BK310.out) hb); have n2_ := MK (blk_below (g := gb311) (o := .cells #[.int .i64 a2_0, .int .i64 a2_1, .int .i64 a2_2, .int .i64 a2_3, .bool a2_4] 38 (0, 0)) (by (with_reducible repeat (first | refine bN ?_ _ | refine bD ?_ | refine bA ?_ _)); refine blk_far ?_ NB311_316.out _; (with_reducible repeat (first | refine bN ?_ _ | refine bD ?_ | refine bA ?_ _)); refine blk_far ?_ NB311_316.out _; (with_reducible repeat (first | refine bN ?_ _ | refine bD ?_ | refine bA ?_ _)); refine blk_far ?_ NB311_316.out _; (with_reducible repeat (first | refine bN ?_ _ | refine bD ?_ | refine bA ?_ _)); refine blk_far ?_ NB311_316.out _; (with_reducible repeat (first | refine bN ?_ _ | refine bD ?_ | refine bA ?_ _)); refine blk_far ?_ NB311_316.out _; (with_reducible repeat (first | refine bN ?_ _ | refine bD ?_ | refine bA ?_ _)); refine blk_far ?_ NB311_316.out _; (with_reducible repeat (first | refine bN ?_ _ | refine bD ?_ | refine bA ?_ _)); refine blk_far ?_ NB311_316.out _; (with_reducible repeat (first | refine bN ?_ _ | refine bD ?_ | refine bA ?_ _)); exact BK311.out) hb); have n3_ := MK (blk_below (g := gb312) (o := .cells #[.bool false, .int .i64 0, .int .i64 0, .int .i64 0, .bool false, .bool false] 52 (0, 0)) (by (with_reducible repeat (first | refine bN ?_ _ | refine bD ?_ | refine bA ?_ _)); refine blk_far ?_ NB312_316.out _; (with_reducible repeat (first | refine bN ?_ _ | refine bD ?_ | refine bA ?_ _)); refine blk_far ?_ NB312_316.out _; (with_reducible repeat (first | refine bN ?_ _ | refine bD ?_ | refine bA ?_ _)); refine blk_far ?_ NB312_316.out _; (with_reducible repeat (first | refine bN ?_ _ | refine bD ?_ | refine bA ?_ _)); refine blk_far ?_ NB312_316.out _; (with_reducible repeat (first | refine bN ?_ _ | refine bD ?_ | refine bA ?_ _)); refine blk_far ?_ NB312_316.out _; (with_reducible repeat (first | refine bN ?_ _ | refine bD ?_ | refine bA ?_ _)); refine blk_far ?_ NB312_316.out _; (with_reducible repeat (first | refine bN ?_ _ | refine bD ?_ | refine bA ?_ _)); refine blk_far ?_ NB312_316.out _; (with_reducible repeat (first | refine bN ?_ _ | refine bD ?_ | refine bA ?_ _)); exact BK312.out) hb); have n4_ := MK (blk_below (g := gb316) (o := .cells #[.bool true, .int .i64 a1_0, .int .i64 a1_1, .int .i64 0, .bool false, .bool true] 52 (0, 0)) (by (with_reducible repeat (first | refine bN ?_ _ | refine bD ?_ | refine bA ?_ _)); refine blk_put (cs := #[.bool true, .int .i64 a1_0, .int .i64 a1_1, .int .i64 0, .bool false, .bool false]) ?_ 5 _ rfl; (with_reducible repeat (first | refine bN ?_ _ | refine bD ?_ | refine bA ?_ _)); refine blk_put (cs := #[.bool true, .int .i64 a1_0, .int .i64 a1_1, .int .i64 0, .bool false, .bool false]) ?_ 5 _ rfl; (with_reducible repeat (first | refine bN ?_ _ | refine bD ?_ | refine bA ?_ _)); refine blk_put (cs := #[.bool true, .int .i64 a1_0, .int .i64 a1_1, .int .i64 0, .bool false, .bool false]) ?_ 4 _ rfl; (with_reducible repeat (first | refine bN ?_ _ | refine bD ?_ | refine bA ?_ _)); refine blk_put (cs := #[.bool true, .int .i64 a1_0, .int .i64 a1_1, .int .i64 0, .bool false, .bool false]) ?_ 3 _ rfl; (with_reducible repeat (first | refine bN ?_ _ | refine bD ?_ | refine bA ?_ _)); refine blk_put (cs := #[.bool true, .int .i64 a1_0, .int .i64 0, .int .i64 0, .bool false, .bool false]) ?_ 2 _ rfl; (with_reducible repeat (first | refine bN ?_ _ | refine bD ?_ | refine bA ?_ _)); refine blk_put (cs := #[.bool true, .int .i64 0, .int .i64 0, .int .i64 0, .bool false, .bool false]) ?_ 1 _ rfl; (with_reducible repeat (first | refine bN ?_ _ | refine bD ?_ | refine bA ?_ _)); refine blk_put (cs := #[.bool false, .int .i64 0, .int .i64 0, .int .i64 0, .bool false, .bool false]) ?_ 0 _ rfl; (with_reducible repeat (first | refine bN ?_ _ | refine bD ?_ | refine bA ?_ _)); exact BK316.out) hb); have n5_ := MK (below_step (by repeat (first | (with_reducible first | exact HB.out | apply lA | apply lN | apply lD | refine lS ?_ GE309.out | refine lS ?_ GE310.out | refine lS ?_ GE311.out | refine lS ?_ GE312.out | refine lS ?_ GE316.out) | exact HB.out)) hb); clear BK309; clear BK310; clear BK311; clear BK312; clear BK316; clear HB; have BK309 := n0_; have BK310 := n1_; have BK311 := n2_; have BK312 := n3_; have BK316 := n4_; have HB := n5_; clear n0_ n1_ n2_ n3_ n4_ n5_; (try clear hb); (try clear hb2); (try clear hk); (try clear hi); obtain ⟨hcz90_0, hcz90_1, hcz90_2, hcz90_3, hcz90_4, hcz90_5⟩ := bc6 BK316.out; obtain ⟨hfz90_0, hfz90_1, hfz90_2, hfz90_3, hfz90_4, hfz90_5⟩ := bf6 BK316.out; obtain ⟨hcz91_0, hcz91_1, hcz91_2, hcz91_3, hcz91_4⟩ := bc5 BK311.out; obtain ⟨hfz91_0, hfz91_1, hfz91_2, hfz91_3, hfz91_4⟩ := bf5 BK311.out))
       go_meet
       case rel => exact ⟨_, (a2_2), (t317), (true), H', ⟨by have := HJ3.out; first | omega | exact Nat.le_refl _⟩, ⟨by (with_reducible repeat (first | refine bN ?_ _ | refine bD ?_ | refine bA ?_ _)); refine blk_far ?_ NB309_316.out _; (with_reducible repeat (first | refine bN ?_ _ | refine bD ?_ | refine bA ?_ _)); refine blk_far ?_ NB309_316.out _; (with_reducible repeat (first | refine bN ?_ _ | refine bD ?_ | refine bA ?_ _)); exact BK309.out⟩, ⟨by (with_reducible repeat (first | refine bN ?_ _ | refine bD ?_ | refine bA ?_ _)); refine blk_far ?_ NB310_316.out _; (with_reducible repeat (first | refine bN ?_ _ | refine bD ?_ | refine bA ?_ _)); refine blk_far ?_ NB310_316.out _; (with_reducible repeat (first | refine bN ?_ _ | refine bD ?_ | refine bA ?_ _)); exact BK310.out⟩, ⟨by (with_reducible repeat (first | refine bN ?_ _ | refine bD ?_ | refine bA ?_ _)); refine blk_far ?_ NB311_316.out _; (with_reducible repeat (first | refine bN ?_ _ | refine bD ?_ | refine bA ?_ _)); refine blk_far ?_ NB311_316.out _; (with_reducible repeat (first | refine bN ?_ _ | refine bD ?_ | refine bA ?_ _)); exact BK311.out⟩, ⟨by (with_reducible repeat (first | refine bN ?_ _ | refine bD ?_ | refine bA ?_ _)); refine blk_far ?_ NB312_316.out _; (with_reducible repeat (first | refine bN ?_ _ | refine bD ?_ | refine bA ?_ _)); refine blk_far ?_ NB312_316.out _; (with_reducible repeat (first | refine bN ?_ _ | refine bD ?_ | refine bA ?_ _)); exact BK312.out⟩, ⟨by (with_reducible repeat (first | refine bN ?_ _ | refine bD ?_ | refine bA ?_ _)); refine blk_put (cs := #[.bool true, .int .i64 a1_0, .int .i64 a1_1, .int .i64 0, .bool t317, .bool true]) ?_ 2 _ rfl; (with_reducible repeat (first | refine bN ?_ _ | refine bD ?_ | refine bA ?_ _)); refine blk_put (cs := #[.bool true, .int .i64 a1_0, .int .i64 a1_1, .int .i64 0, .bool false, .bool true]) ?_ 4 _ rfl; (with_reducible repeat (first | refine bN ?_ _ | refine bD ?_ | refine bA ?_ _)); exact BK316.out⟩, ⟨by repeat (first | (with_reducible first | exact HB.out | apply lA | apply lN | apply lD | refine lS ?_ GE309.out | refine lS ?_ GE310.out | refine lS ?_ GE311.out | refine lS ?_ GE312.out | refine lS ?_ GE316.out) | exact HB.out)⟩⟩
    case rest =>
     clear HC45
     (try clear c40); (try clear hcz49_0); (try clear hcz49_1); (try clear hcz55_0); (try clear hcz55_1); (try clear hcz55_2); (try clear hcz55_3); (try clear hcz55_4); (try clear hcz55_5); (try clear hcz58_0); (try clear hcz58_1); (try clear hcz58_2); (try clear hcz58_3); (try clear hcz58_4); (try clear hcz59_0); (try clear hcz59_1); (try clear hfz49_0); (try clear hfz49_1); (try clear hfz55_0); (try clear hfz55_1); (try clear hfz55_2); (try clear hfz55_3); (try clear hfz55_4); (try clear hfz55_5); (try clear hfz58_0); (try clear hfz58_1); (try clear hfz58_2); (try clear hfz58_3); (try clear hfz58_4); (try clear hfz59_0); (try clear hfz59_1)
     obtain ⟨kq, x317002_44, x317004_44, x317005_44, HA, HJ44, BK309, BK310, BK311, BK312, BK316, HB⟩ := hcut
     cases kq with
     | zero => exact absurd HA.out (by simp [spec_Tick.j1])
     | succ kj44 =>
      have H := HA.out
      clear HA
      simp only [spec_Tick.j1] at H
      have HC92 := MK H
      clear H
      have hnb93 := NB316_309.out
      have hnc93 := NB309_316.out
      have hnb94 := NB316_310.out
      have hnc94 := NB310_316.out
      have hnb95 := NB316_311.out
      have hnc95 := NB311_316.out
      have hnb96 := NB316_312.out
      have hnc96 := NB312_316.out
      obtain ⟨hcz97_0, hcz97_1, hcz97_2, hcz97_3, hcz97_4, hcz97_5⟩ := bc6 BK316.out
      obtain ⟨hfz97_0, hfz97_1, hfz97_2, hfz97_3, hfz97_4, hfz97_5⟩ := bf6 BK316.out
      have hnb98 := NB311_309.out
      have hnc98 := NB309_311.out
      have hnb99 := NB311_310.out
      have hnc99 := NB310_311.out
      have hnb100 := NB311_312.out
      have hnc100 := NB312_311.out
      obtain ⟨hcz101_0, hcz101_1, hcz101_2, hcz101_3, hcz101_4⟩ := bc5 BK311.out
      obtain ⟨hfz101_0, hfz101_1, hfz101_2, hfz101_3, hfz101_4⟩ := bf5 BK311.out
      go_upto_if 56 with (fail)
      go_cut [8] (fun v8 wc => ∃ (kq : Nat) (x8_91 : Int), v8 = .int .i64 x8_91 ∧ Aside0 (spec_Tick.j2 kq x8_91 a0_0 a0_1 a0_2 a0_3 a0_4 a1_0 a1_1 a2_0 a2_1 a2_2 a2_3 a2_4 true a1_0 x317002_44 0 x317004_44 x317005_44 = some (r1, r2, r3, r4, r5, r6)) ∧ Aside0 (kq ≤ kj44) ∧ Aside0 (wc.heap[gb309]? = some (.cells #[.int .i64 a0_0, .int .i64 a0_1, .int .i64 a0_2, .int .i64 a0_3, .int .i64 a0_4] 32 (0, 0))) ∧ Aside0 (wc.heap[gb310]? = some (.cells #[.int .i64 a1_0, .int .i64 a1_1] 26 (0, 0))) ∧ Aside0 (wc.heap[gb311]? = some (.cells #[.int .i64 a2_0, .int .i64 a2_1, .int .i64 a2_2, .int .i64 a2_3, .bool a2_4] 38 (0, 0))) ∧ Aside0 (wc.heap[gb312]? = some (.cells #[.bool false, .int .i64 0, .int .i64 0, .int .i64 0, .bool false, .bool false] 52 (0, 0))) ∧ Aside0 (wc.heap[gb316]? = some (.cells #[.bool true, .int .i64 a1_0, .int .i64 x317002_44, .int .i64 0, .bool x317004_44, .bool x317005_44] 52 (0, 0))) ∧ Aside0 (Below w.heap.size w wc))
      case first =>
       have H := HC92.out
       clear HC92
       by_cases c102 : (wrap64 (x317002_44 - a2_0)) < 0
       ·rw [if_pos c102] at H
        have c102b0 : decide ((wrap64 (x317002_44 - a2_0)) < 0) = true := decide_eq_true c102
        clear c102
        (first | rw [c102b0] | (simp only [i64_w, i32_w]; rw [c102b0]) | skip)
        have H' := MK H
        clear H
        go_wp2
        go_meet
        case rel => exact ⟨_, (0), (by first | rfl | (simp; done) | (simp [*]; done)), H', ⟨by have := HJ3.out; have := HJ44.out; first | omega | exact Nat.le_refl _⟩, ⟨by (with_reducible repeat (first | refine bN ?_ _ | refine bD ?_ | refine bA ?_ _)); exact BK309.out⟩, ⟨by (with_reducible repeat (first | refine bN ?_ _ | refine bD ?_ | refine bA ?_ _)); exact BK310.out⟩, ⟨by (with_reducible repeat (first | refine bN ?_ _ | refine bD ?_ | refine bA ?_ _)); exact BK311.out⟩, ⟨by (with_reducible repeat (first | refine bN ?_ _ | refine bD ?_ | refine bA ?_ _)); exact BK312.out⟩, ⟨by (with_reducible repeat (first | refine bN ?_ _ | refine bD ?_ | refine bA ?_ _)); exact BK316.out⟩, ⟨by repeat (first | (with_reducible first | exact HB.out | apply lA | apply lN | apply lD | refine lS ?_ GE309.out | refine lS ?_ GE310.out | refine lS ?_ GE311.out | refine lS ?_ GE312.out | refine lS ?_ GE316.out) | exact HB.out)⟩⟩
       ·rw [if_neg c102] at H
        have c102b0 : decide ((wrap64 (x317002_44 - a2_0)) < 0) = false := decide_eq_false c102
        clear c102
        (first | rw [c102b0] | (simp only [i64_w, i32_w]; rw [c102b0]) | skip)
        have H' := MK H
        clear H
        go_wp2
        go_meet
        case rel => exact ⟨_, (wrap64 (x317002_44 - a2_0)), (by first | rfl | (simp; done) | (simp [*]; done)), H', ⟨by have := HJ3.out; have := HJ44.out; first | omega | exact Nat.le_refl _⟩, ⟨by (with_reducible repeat (first | refine bN ?_ _ | refine bD ?_ | refine bA ?_ _)); exact BK309.out⟩, ⟨by (with_reducible repeat (first | refine bN ?_ _ | refine bD ?_ | refine bA ?_ _)); exact BK310.out⟩, ⟨by (with_reducible repeat (first | refine bN ?_ _ | refine bD ?_ | refine bA ?_ _)); exact BK311.out⟩, ⟨by (with_reducible repeat (first | refine bN ?_ _ | refine bD ?_ | refine bA ?_ _)); exact BK312.out⟩, ⟨by (with_reducible repeat (first | refine bN ?_ _ | refine bD ?_ | refine bA ?_ _)); exact BK316.out⟩, ⟨by repeat (first | (with_reducible first | exact HB.out | apply lA | apply lN | apply lD | refine lS ?_ GE309.out | refine lS ?_ GE310.out | refine lS ?_ GE311.out | refine lS ?_ GE312.out | refine lS ?_ GE316.out) | exact HB.out)⟩⟩
      case rest =>
       clear HC92
       (try clear c40); (try clear hcz101_0); (try clear hcz101_1); (try clear hcz101_2); (try clear hcz101_3); (try clear hcz101_4); (try clear hcz49_0); (try clear hcz49_1); (try clear hcz55_0); (try clear hcz55_1); (try clear hcz55_2); (try clear hcz55_3); (try clear hcz55_4); (try clear hcz55_5); (try clear hcz58_0); (try clear hcz58_1); (try clear hcz58_2); (try clear hcz58_3); (try clear hcz58_4); (try clear hcz59_0); (try clear hcz59_1); (try clear hcz97_0); (try clear hcz97_1); (try clear hcz97_2); (try clear hcz97_3); (try clear hcz97_4); (try clear hcz97_5); (try clear hfz101_0); (try clear hfz101_1); (try clear hfz101_2); (try clear hfz101_3); (try clear hfz101_4); (try clear hfz49_0); (try clear hfz49_1); (try clear hfz55_0); (try clear hfz55_1); (try clear hfz55_2); (try clear hfz55_3); (try clear hfz55_4); (try clear hfz55_5); (try clear hfz58_0); (try clear hfz58_1); (try clear hfz58_2); (try clear hfz58_3); (try clear hfz58_4); (try clear hfz59_0); (try clear hfz59_1); (try clear hfz97_0); (try clear hfz97_1); (try clear hfz97_2); (try clear hfz97_3); (try clear hfz97_4); (try clear hfz97_5)
       obtain ⟨kq, x8_91, rfl, HA, HJ91, BK309, BK310, BK311, BK312, BK316, HB⟩ := hcut
       cases kq with
       | zero => exact absurd HA.out (by simp [spec_Tick.j2])
       | succ kj91 =>
        have H := HA.out
        clear HA
        simp only [spec_Tick.j2] at H
        replace H := Option.bind_eq_some_iff.mp H
        obtain ⟨t318, A1030, H⟩ := H
        replace H : ((spec_l2keeps.f kj91 a0_0 a0_1 a0_2 a0_3 a0_4 a2_0 a2_1 a2_2 a2_3 a2_4 x317002_44).bind fun t319 => (if a1_0 = 3 then (if a2_1 > 0 then (spec_Tick.j3 kj91 t319 true a1_0 a1_1 a2_0 a2_1 a2_2 a2_3 a2_4 true a1_0 x317002_44 t318 x317004_44 x317005_44) else (if a2_4 = true then (spec_Tick.j3 kj91 t319 (!t319) a1_0 a1_1 a2_0 a2_1 a2_2 a2_3 a2_4 true a1_0 x317002_44 t318 x317004_44 x317005_44) else (spec_Tick.j3 kj91 t319 true a1_0 a1_1 a2_0 a2_1 a2_2 a2_3 a2_4 true a1_0 x317002_44 t318 x317004_44 x317005_44))) else (spec_Tick.j3 kj91 t319 false a1_0 a1_1 a2_0 a2_1 a2_2 a2_3 a2_4 true a1_0 x317002_44 t318 x317004_44 x317005_44))) = some (r1, r2, r3, r4, r5, r6) := H
        have A103 := MK A1030
        clear A1030
        replace H := Option.bind_eq_some_iff.mp H
        obtain ⟨t319, A1040, H⟩ := H
        replace H : (if a1_0 = 3 then (if a2_1 > 0 then (spec_Tick.j3 kj91 t319 true a1_0 a1_1 a2_0 a2_1 a2_2 a2_3 a2_4 true a1_0 x317002_44 t318 x317004_44 x317005_44) else (if a2_4 = true then (spec_Tick.j3 kj91 t319 (!t319) a1_0 a1_1 a2_0 a2_1 a2_2 a2_3 a2_4 true a1_0 x317002_44 t318 x317004_44 x317005_44) else (spec_Tick.j3 kj91 t319 true a1_0 a1_1 a2_0 a2_1 a2_2 a2_3 a2_4 true a1_0 x317002_44 t318 x317004_44 x317005_44))) else (spec_Tick.j3 kj91 t319 false a1_0 a1_1 a2_0 a2_1 a2_2 a2_3 a2_4 true a1_0 x317002_44 t318 x317004_44 x317005_44)) = some (r1, r2, r3, r4, r5, r6) := H
        have A104 := MK A1040
        clear A1040
        have HC105 := MK H
        clear H
        have hnb106 := NB309_310.out
        have hnc106 := NB310_309.out
        have hnb107 := NB309_311.out
        have hnc107 := NB311_309.out
        have hnb108 := NB309_312.out
        have hnc108 := NB312_309.out
        have hnb109 := NB309_316.out
        have hnc109 := NB316_309.out
        obtain ⟨hcz110_0, hcz110_1, hcz110_2, hcz110_3, hcz110_4⟩ := bc5 BK309.out
        obtain ⟨hfz110_0, hfz110_1, hfz110_2, hfz110_3, hfz110_4⟩ := bf5 BK309.out
        have hnb111 := NB311_310.out
        have hnc111 := NB310_311.out
        have hnb112 := NB311_312.out
        have hnc112 := NB312_311.out
        have hnb113 := NB311_316.out
        have hnc113 := NB316_311.out
        obtain ⟨hcz114_0, hcz114_1, hcz114_2, hcz114_3, hcz114_4⟩ := bc5 BK311.out
        obtain ⟨hfz114_0, hfz114_1, hfz114_2, hfz114_3, hfz114_4⟩ := bf5 BK311.out
        go_upto_region 13 with (first | ((with_reducible refine gate_callee (f := 33) rfl ?_); refine goesL_ (some 61) rfl rfl Try.func33 (by kernel_rfl) rfl #[.agg #[.int .i64 a0_0, .int .i64 a0_1, .int .i64 a0_2, .int .i64 a0_3, .int .i64 a0_4], .int .i64 x8_91, .int .i64 a2_3] rfl (by (try simp only [List.map_toArray, List.map_cons, List.map_nil]); first | done | rfl | (simp only [List.length_drop, List.length_take]; rfl)) ?_; (with_reducible refine (spec_Permitted.calls kj91 a0_0 a0_1 a0_2 a0_3 a0_4 x8_91 a2_3 t318 _ A103.out).mono ?_); rintro e w115 ⟨rfl, hb⟩; refine ⟨_, rfl, ?_⟩; have n0_ := MK (blk_below (by (with_reducible repeat (first | refine bN ?_ _ | refine bD ?_ | refine bA ?_ _)); exact BK309.out) hb); have n1_ := MK (blk_below (by (with_reducible repeat (first | refine bN ?_ _ | refine bD ?_ | refine bA ?_ _)); exact BK310.out) hb); have n2_ := MK (blk_below (by (with_reducible repeat (first | refine bN ?_ _ | refine bD ?_ | refine bA ?_ _)); exact BK311.out) hb); have n3_ := MK (blk_below (by (with_reducible repeat (first | refine bN ?_ _ | refine bD ?_ | refine bA ?_ _)); exact BK312.out) hb); have n4_ := MK (blk_below (by (with_reducible repeat (first | refine bN ?_ _ | refine bD ?_ | refine bA ?_ _)); exact BK316.out) hb); have n5_ := MK (below_step (by repeat (first | (with_reducible first | exact HB.out | apply lA | apply lN | apply lD | refine lS ?_ GE309.out | refine lS ?_ GE310.out | refine lS ?_ GE311.out | refine lS ?_ GE312.out | refine lS ?_ GE316.out) | exact HB.out)) hb); clear BK309; clear BK310; clear BK311; clear BK312; clear BK316; clear HB; have BK309 := n0_; have BK310 := n1_; have BK311 := n2_; have BK312 := n3_; have BK316 := n4_; have HB := n5_; clear n0_ n1_ n2_ n3_ n4_ n5_; (try clear hb); (try clear hb2); (try clear hk); (try clear hi); have hnb116 := NB316_310.out; have hnc116 := NB310_316.out; have hnb117 := NB316_312.out; have hnc117 := NB312_316.out; obtain ⟨hcz118_0, hcz118_1, hcz118_2, hcz118_3, hcz118_4, hcz118_5⟩ := bc6 BK316.out; obtain ⟨hfz118_0, hfz118_1, hfz118_2, hfz118_3, hfz118_4, hfz118_5⟩ := bf6 BK316.out; obtain ⟨hcz119_0, hcz119_1, hcz119_2, hcz119_3, hcz119_4⟩ := bc5 BK309.out; obtain ⟨hfz119_0, hfz119_1, hfz119_2, hfz119_3, hfz119_4⟩ := bf5 BK309.out; obtain ⟨hcz120_0, hcz120_1, hcz120_2, hcz120_3, hcz120_4⟩ := bc5 BK311.out; obtain ⟨hfz120_0, hfz120_1, hfz120_2, hfz120_3, hfz120_4⟩ := bf5 BK311.out) | ((with_reducible refine gate_callee (f := 67) rfl ?_); refine goesL_ (some 68) rfl rfl Try.func67 (by kernel_rfl) rfl #[.agg #[.int .i64 a0_0, .int .i64 a0_1, .int .i64 a0_2, .int .i64 a0_3, .int .i64 a0_4], .agg #[.int .i64 a2_0, .int .i64 a2_1, .int .i64 a2_2, .int .i64 a2_3, .bool a2_4], .int .i64 x317002_44] rfl (by (try simp only [List.map_toArray, List.map_cons, List.map_nil]); first | done | rfl | (simp only [List.length_drop, List.length_take]; rfl)) ?_; (with_reducible refine (spec_l2keeps.calls kj91 a0_0 a0_1 a0_2 a0_3 a0_4 a2_0 a2_1 a2_2 a2_3 a2_4 x317002_44 t319 _ A104.out).mono ?_); rintro e w121 ⟨rfl, hb⟩; refine ⟨_, rfl, ?_⟩; have n0_ := MK (blk_below (g := gb309) (o := .cells #[.int .i64 a0_0, .int .i64 a0_1, .int .i64 a0_2, .int .i64 a0_3, .int .i64 a0_4] 32 (0, 0)) (by (with_reducible repeat (first | refine bN ?_ _ | refine bD ?_ | refine bA ?_ _)); refine blk_far ?_ NB309_316.out _; (with_reducible repeat (first | refine bN ?_ _ | refine bD ?_ | refine bA ?_ _)); exact BK309.out) hb); have n1_ := MK (blk_below (g := gb310) (o := .cells #[.int .i64 a1_0, .int .i64 a1_1] 26 (0, 0)) (by (with_reducible repeat (first | refine bN ?_ _ | refine bD ?_ | refine bA ?_ _)); refine blk_far ?_ NB310_316.out _; (with_reducible repeat (first | refine bN ?_ _ | refine bD ?_ | refine bA ?_ _)); exact BK310.out) hb); have n2_ := MK (blk_below (g := gb311) (o := .cells #[.int .i64 a2_0, .int .i64 a2_1, .int .i64 a2_2, .int .i64 a2_3, .bool a2_4] 38 (0, 0)) (by (with_reducible repeat (first | refine bN ?_ _ | refine bD ?_ | refine bA ?_ _)); refine blk_far ?_ NB311_316.out _; (with_reducible repeat (first | refine bN ?_ _ | refine bD ?_ | refine bA ?_ _)); exact BK311.out) hb); have n3_ := MK (blk_below (g := gb312) (o := .cells #[.bool false, .int .i64 0, .int .i64 0, .int .i64 0, .bool false, .bool false] 52 (0, 0)) (by (with_reducible repeat (first | refine bN ?_ _ | refine bD ?_ | refine bA ?_ _)); refine blk_far ?_ NB312_316.out _; (with_reducible repeat (first | refine bN ?_ _ | refine bD ?_ | refine bA ?_ _)); exact BK312.out) hb); have n4_ := MK (blk_below (g := gb316) (o := .cells #[.bool true, .int .i64 a1_0, .int .i64 x317002_44, .int .i64 t318, .bool x317004_44, .bool x317005_44] 52 (0, 0)) (by (with_reducible repeat (first | refine bN ?_ _ | refine bD ?_ | refine bA ?_ _)); refine blk_put (cs := #[.bool true, .int .i64 a1_0, .int .i64 x317002_44, .int .i64 0, .bool x317004_44, .bool x317005_44]) ?_ 3 _ rfl; (with_reducible repeat (first | refine bN ?_ _ | refine bD ?_ | refine bA ?_ _)); exact BK316.out) hb); have n5_ := MK (below_step (by repeat (first | (with_reducible first | exact HB.out | apply lA | apply lN | apply lD | refine lS ?_ GE309.out | refine lS ?_ GE310.out | refine lS ?_ GE311.out | refine lS ?_ GE312.out | refine lS ?_ GE316.out) | exact HB.out)) hb); clear BK309; clear BK310; clear BK311; clear BK312; clear BK316; clear HB; have BK309 := n0_; have BK310 := n1_; have BK311 := n2_; have BK312 := n3_; have BK316 := n4_; have HB := n5_; clear n0_ n1_ n2_ n3_ n4_ n5_; (try clear hb); (try clear hb2); (try clear hk); (try clear hi)))
        (try simp only [Act.put, List.setIfInBounds_toArray, List.set_cons_zero, List.set_cons_succ])
        go_cut [85] (fun v85 wc => ∃ (kq : Nat) (x85_104 : Bool), v85 = .bool x85_104 ∧ Aside0 (spec_Tick.j3 kq t319 x85_104 a1_0 a1_1 a2_0 a2_1 a2_2 a2_3 a2_4 true a1_0 x317002_44 t318 x317004_44 x317005_44 = some (r1, r2, r3, r4, r5, r6)) ∧ Aside0 (kq ≤ kj91) ∧ Aside0 (wc.heap[gb309]? = some (.cells #[.int .i64 a0_0, .int .i64 a0_1, .int .i64 a0_2, .int .i64 a0_3, .int .i64 a0_4] 32 (0, 0))) ∧ Aside0 (wc.heap[gb310]? = some (.cells #[.int .i64 a1_0, .int .i64 a1_1] 26 (0, 0))) ∧ Aside0 (wc.heap[gb311]? = some (.cells #[.int .i64 a2_0, .int .i64 a2_1, .int .i64 a2_2, .int .i64 a2_3, .bool a2_4] 38 (0, 0))) ∧ Aside0 (wc.heap[gb312]? = some (.cells #[.bool false, .int .i64 0, .int .i64 0, .int .i64 0, .bool false, .bool false] 52 (0, 0))) ∧ Aside0 (wc.heap[gb316]? = some (.cells #[.bool true, .int .i64 a1_0, .int .i64 x317002_44, .int .i64 t318, .bool x317004_44, .bool x317005_44] 52 (0, 0))) ∧ Aside0 (Below w.heap.size w wc))
        case first =>
         have H := HC105.out
         clear HC105
         by_cases c122 : a1_0 = 3
         ·rw [if_pos c122] at H
          have c122b0 : (a1_0 == 3) = true := beq_iff_eq.mpr c122
          have c122b1 : (a1_0 != 3) = false := bne_eq_false_iff_eq.mpr c122
          clear c122
          (first | rw [c122b0] | (simp only [i64_w, i32_w]; rw [c122b0]) | rw [c122b1] | skip)
          by_cases c123 : a2_1 > 0
          ·rw [if_pos c123] at H
           have c123b0 : decide (0 < a2_1) = true := decide_eq_true c123
           clear c123
           have H' := MK H
           clear H
           have hnb124 := NB310_309.out
           have hnc124 := NB309_310.out
           have hnb125 := NB310_311.out
           have hnc125 := NB311_310.out
           have hnb126 := NB310_312.out
           have hnc126 := NB312_310.out
           have hnb127 := NB310_316.out
           have hnc127 := NB316_310.out
           obtain ⟨hcz128_0, hcz128_1⟩ := bc2 BK310.out
           obtain ⟨hfz128_0, hfz128_1⟩ := bf2 BK310.out
           have hnb129 := NB311_309.out
           have hnc129 := NB309_311.out
           have hnb130 := NB311_312.out
           have hnc130 := NB312_311.out
           have hnb131 := NB311_316.out
           have hnc131 := NB316_311.out
           obtain ⟨hcz132_0, hcz132_1, hcz132_2, hcz132_3, hcz132_4⟩ := bc5 BK311.out
           obtain ⟨hfz132_0, hfz132_1, hfz132_2, hfz132_3, hfz132_4⟩ := bf5 BK311.out
           go_wp2
           go_meet
           case rel => exact ⟨_, (true), (by first | rfl | (simp; done) | (simp [*]; done)), H', ⟨by have := HJ3.out; have := HJ44.out; have := HJ91.out; first | omega | exact Nat.le_refl _⟩, ⟨by (with_reducible repeat (first | refine bN ?_ _ | refine bD ?_ | refine bA ?_ _)); exact BK309.out⟩, ⟨by (with_reducible repeat (first | refine bN ?_ _ | refine bD ?_ | refine bA ?_ _)); exact BK310.out⟩, ⟨by (with_reducible repeat (first | refine bN ?_ _ | refine bD ?_ | refine bA ?_ _)); exact BK311.out⟩, ⟨by (with_reducible repeat (first | refine bN ?_ _ | refine bD ?_ | refine bA ?_ _)); exact BK312.out⟩, ⟨by (with_reducible repeat (first | refine bN ?_ _ | refine bD ?_ | refine bA ?_ _)); exact BK316.out⟩, ⟨by repeat (first | (with_reducible first | exact HB.out | apply lA | apply lN | apply lD | refine lS ?_ GE309.out | refine lS ?_ GE310.out | refine lS ?_ GE311.out | refine lS ?_ GE312.out | refine lS ?_ GE316.out) | exact HB.out)⟩⟩
          ·rw [if_neg c123] at H
           have c123b0 : decide (0 < a2_1) = false := decide_eq_false c123
           clear c123
           by_cases c133 : a2_4 = true
           ·subst c133
            have H1 : (spec_Tick.j3 kj91 t319 (!t319) a1_0 a1_1 a2_0 a2_1 a2_2 a2_3 true true a1_0 x317002_44 t318 x317004_44 x317005_44) = some (r1, r2, r3, r4, r5, r6) := by rw [if_pos rfl] at H; exact H
            clear H
            have H := H1
            clear H1
            have H' := MK H
            clear H
            have hnb134 := NB310_309.out
            have hnc134 := NB309_310.out
            have hnb135 := NB310_311.out
            have hnc135 := NB311_310.out
            have hnb136 := NB310_312.out
            have hnc136 := NB312_310.out
            have hnb137 := NB310_316.out
            have hnc137 := NB316_310.out
            obtain ⟨hcz138_0, hcz138_1⟩ := bc2 BK310.out
            obtain ⟨hfz138_0, hfz138_1⟩ := bf2 BK310.out
            have hnb139 := NB311_309.out
            have hnc139 := NB309_311.out
            have hnb140 := NB311_312.out
            have hnc140 := NB312_311.out
            have hnb141 := NB311_316.out
            have hnc141 := NB316_311.out
            obtain ⟨hcz142_0, hcz142_1, hcz142_2, hcz142_3, hcz142_4⟩ := bc5 BK311.out
            obtain ⟨hfz142_0, hfz142_1, hfz142_2, hfz142_3, hfz142_4⟩ := bf5 BK311.out
            go_wp2
            go_meet
            case rel => exact ⟨_, (!t319), (by first | rfl | (simp; done) | (simp [*]; done)), H', ⟨by have := HJ3.out; have := HJ44.out; have := HJ91.out; first | omega | exact Nat.le_refl _⟩, ⟨by (with_reducible repeat (first | refine bN ?_ _ | refine bD ?_ | refine bA ?_ _)); exact BK309.out⟩, ⟨by (with_reducible repeat (first | refine bN ?_ _ | refine bD ?_ | refine bA ?_ _)); exact BK310.out⟩, ⟨by (with_reducible repeat (first | refine bN ?_ _ | refine bD ?_ | refine bA ?_ _)); exact BK311.out⟩, ⟨by (with_reducible repeat (first | refine bN ?_ _ | refine bD ?_ | refine bA ?_ _)); exact BK312.out⟩, ⟨by (with_reducible repeat (first | refine bN ?_ _ | refine bD ?_ | refine bA ?_ _)); exact BK316.out⟩, ⟨by repeat (first | (with_reducible first | exact HB.out | apply lA | apply lN | apply lD | refine lS ?_ GE309.out | refine lS ?_ GE310.out | refine lS ?_ GE311.out | refine lS ?_ GE312.out | refine lS ?_ GE316.out) | exact HB.out)⟩⟩
           ·replace c133 := Bool.eq_false_iff.mpr c133
            subst c133
            have H1 : (spec_Tick.j3 kj91 t319 true a1_0 a1_1 a2_0 a2_1 a2_2 a2_3 false true a1_0 x317002_44 t318 x317004_44 x317005_44) = some (r1, r2, r3, r4, r5, r6) := by rw [if_neg (show ¬ (false = true) by decide)] at H; exact H
            clear H
            have H := H1
            clear H1
            have H' := MK H
            clear H
            have hnb143 := NB310_309.out
            have hnc143 := NB309_310.out
            have hnb144 := NB310_311.out
            have hnc144 := NB311_310.out
            have hnb145 := NB310_312.out
            have hnc145 := NB312_310.out
            have hnb146 := NB310_316.out
            have hnc146 := NB316_310.out
            obtain ⟨hcz147_0, hcz147_1⟩ := bc2 BK310.out
            obtain ⟨hfz147_0, hfz147_1⟩ := bf2 BK310.out
            have hnb148 := NB311_309.out
            have hnc148 := NB309_311.out
            have hnb149 := NB311_312.out
            have hnc149 := NB312_311.out
            have hnb150 := NB311_316.out
            have hnc150 := NB316_311.out
            obtain ⟨hcz151_0, hcz151_1, hcz151_2, hcz151_3, hcz151_4⟩ := bc5 BK311.out
            obtain ⟨hfz151_0, hfz151_1, hfz151_2, hfz151_3, hfz151_4⟩ := bf5 BK311.out
            go_wp2
            go_meet
            case rel => exact ⟨_, (true), (by first | rfl | (simp; done) | (simp [*]; done)), H', ⟨by have := HJ3.out; have := HJ44.out; have := HJ91.out; first | omega | exact Nat.le_refl _⟩, ⟨by (with_reducible repeat (first | refine bN ?_ _ | refine bD ?_ | refine bA ?_ _)); exact BK309.out⟩, ⟨by (with_reducible repeat (first | refine bN ?_ _ | refine bD ?_ | refine bA ?_ _)); exact BK310.out⟩, ⟨by (with_reducible repeat (first | refine bN ?_ _ | refine bD ?_ | refine bA ?_ _)); exact BK311.out⟩, ⟨by (with_reducible repeat (first | refine bN ?_ _ | refine bD ?_ | refine bA ?_ _)); exact BK312.out⟩, ⟨by (with_reducible repeat (first | refine bN ?_ _ | refine bD ?_ | refine bA ?_ _)); exact BK316.out⟩, ⟨by repeat (first | (with_reducible first | exact HB.out | apply lA | apply lN | apply lD | refine lS ?_ GE309.out | refine lS ?_ GE310.out | refine lS ?_ GE311.out | refine lS ?_ GE312.out | refine lS ?_ GE316.out) | exact HB.out)⟩⟩
         ·rw [if_neg c122] at H
          have c122b0 : (a1_0 == 3) = false := beq_eq_false_iff_ne.mpr c122
          have c122b1 : (a1_0 != 3) = true := bne_iff_ne.mpr c122
          (first | rw [c122b0] | (simp only [i64_w, i32_w]; rw [c122b0]) | rw [c122b1] | skip)
          have H' := MK H
          clear H
          have hnb152 := NB310_309.out
          have hnc152 := NB309_310.out
          have hnb153 := NB310_311.out
          have hnc153 := NB311_310.out
          have hnb154 := NB310_312.out
          have hnc154 := NB312_310.out
          have hnb155 := NB310_316.out
          have hnc155 := NB316_310.out
          obtain ⟨hcz156_0, hcz156_1⟩ := bc2 BK310.out
          obtain ⟨hfz156_0, hfz156_1⟩ := bf2 BK310.out
          go_wp2
          go_meet
          case rel => exact ⟨_, (false), (by first | rfl | (simp; done) | (simp [*]; done)), H', ⟨by have := HJ3.out; have := HJ44.out; have := HJ91.out; first | omega | exact Nat.le_refl _⟩, ⟨by (with_reducible repeat (first | refine bN ?_ _ | refine bD ?_ | refine bA ?_ _)); exact BK309.out⟩, ⟨by (with_reducible repeat (first | refine bN ?_ _ | refine bD ?_ | refine bA ?_ _)); exact BK310.out⟩, ⟨by (with_reducible repeat (first | refine bN ?_ _ | refine bD ?_ | refine bA ?_ _)); exact BK311.out⟩, ⟨by (with_reducible repeat (first | refine bN ?_ _ | refine bD ?_ | refine bA ?_ _)); exact BK312.out⟩, ⟨by (with_reducible repeat (first | refine bN ?_ _ | refine bD ?_ | refine bA ?_ _)); exact BK316.out⟩, ⟨by repeat (first | (with_reducible first | exact HB.out | apply lA | apply lN | apply lD | refine lS ?_ GE309.out | refine lS ?_ GE310.out | refine lS ?_ GE311.out | refine lS ?_ GE312.out | refine lS ?_ GE316.out) | exact HB.out)⟩⟩
        case rest =>
         clear HC105
         (try clear c40); (try clear hcz101_0); (try clear hcz101_1); (try clear hcz101_2); (try clear hcz101_3); (try clear hcz101_4); (try clear hcz110_0); (try clear hcz110_1); (try clear hcz110_2); (try clear hcz110_3); (try clear hcz110_4); (try clear hcz114_0); (try clear hcz114_1); (try clear hcz114_2); (try clear hcz114_3); (try clear hcz114_4); (try clear hcz118_0); (try clear hcz118_1); (try clear hcz118_2); (try clear hcz118_3); (try clear hcz118_4); (try clear hcz118_5); (try clear hcz119_0); (try clear hcz119_1); (try clear hcz119_2); (try clear hcz119_3); (try clear hcz119_4); (try clear hcz120_0); (try clear hcz120_1); (try clear hcz120_2); (try clear hcz120_3); (try clear hcz120_4); (try clear hcz49_0); (try clear hcz49_1); (try clear hcz55_0); (try clear hcz55_1); (try clear hcz55_2); (try clear hcz55_3); (try clear hcz55_4); (try clear hcz55_5); (try clear hcz58_0); (try clear hcz58_1); (try clear hcz58_2); (try clear hcz58_3); (try clear hcz58_4); (try clear hcz59_0); (try clear hcz59_1); (try clear hcz97_0); (try clear hcz97_1); (try clear hcz97_2); (try clear hcz97_3); (try clear hcz97_4); (try clear hcz97_5); (try clear hfz101_0); (try clear hfz101_1); (try clear hfz101_2); (try clear hfz101_3); (try clear hfz101_4); (try clear hfz110_0); (try clear hfz110_1); (try clear hfz110_2); (try clear hfz110_3); (try clear hfz110_4); (try clear hfz114_0); (try clear hfz114_1); (try clear hfz114_2); (try clear hfz114_3); (try clear hfz114_4); (try clear hfz118_0); (try clear hfz118_1); (try clear hfz118_2); (try clear hfz118_3); (try clear hfz118_4); (try clear hfz118_5); (try clear hfz119_0); (try clear hfz119_1); (try clear hfz119_2); (try clear hfz119_3); (try clear hfz119_4); (try clear hfz120_0); (try clear hfz120_1); (try clear hfz120_2); (try clear hfz120_3); (try clear hfz120_4); (try clear hfz49_0); (try clear hfz49_1); (try clear hfz55_0); (try clear hfz55_1); (try clear hfz55_2); (try clear hfz55_3); (try clear hfz55_4); (try clear hfz55_5); (try clear hfz58_0); (try clear hfz58_1); (try clear hfz58_2); (try clear hfz58_3); (try clear hfz58_4); (try clear hfz59_0); (try clear hfz59_1); (try clear hfz97_0); (try clear hfz97_1); (try clear hfz97_2); (try clear hfz97_3); (try clear hfz97_4); (try clear hfz97_5)
         obtain ⟨kq, x85_104, rfl, HA, HJ104, BK309, BK310, BK311, BK312, BK316, HB⟩ := hcut
         cases kq with
         | zero => exact absurd HA.out (by simp [spec_Tick.j3])
         | succ kj104 =>
          have H := HA.out
          clear HA
          simp only [spec_Tick.j3] at H
          by_cases c157 : x85_104 = true
          ·subst c157
           have H1 : (some (true, a1_0, x317002_44, 0, x317004_44, x317005_44)) = some (r1, r2, r3, r4, r5, r6) := by rw [if_pos rfl] at H; exact H
           clear H
           have H := H1
           clear H1
           simp only [Option.some.injEq, Prod.mk.injEq] at H
           obtain ⟨rfl, rfl, rfl, rfl, rfl, rfl⟩ := H
           have hnb158 := NB316_309.out
           have hnc158 := NB309_316.out
           have hnb159 := NB316_310.out
           have hnc159 := NB310_316.out
           have hnb160 := NB316_311.out
           have hnc160 := NB311_316.out
           have hnb161 := NB316_312.out
           have hnc161 := NB312_316.out
           obtain ⟨hcz162_0, hcz162_1, hcz162_2, hcz162_3, hcz162_4, hcz162_5⟩ := bc6 BK316.out
           obtain ⟨hfz162_0, hfz162_1, hfz162_2, hfz162_3, hfz162_4, hfz162_5⟩ := bf6 BK316.out
           have hnb163 := NB312_309.out
           have hnc163 := NB309_312.out
           have hnb164 := NB312_310.out
           have hnc164 := NB310_312.out
           have hnb165 := NB312_311.out
           have hnc165 := NB311_312.out
           obtain ⟨hcz166_0, hcz166_1, hcz166_2, hcz166_3, hcz166_4, hcz166_5⟩ := bc6 BK312.out
           obtain ⟨hfz166_0, hfz166_1, hfz166_2, hfz166_3, hfz166_4, hfz166_5⟩ := bf6 BK312.out
           go_wp2
           refine bodyPost_ret (results_cell_row rfl _ _ gb312 52 #[.bool true, .int .i64 a1_0, .int .i64 x317002_44, .int .i64 0, .bool x317004_44, .bool x317005_44] (0, 0) _ rfl (by (with_reducible repeat (first | refine bN ?_ _ | refine bD ?_ | refine bA ?_ _)); refine blk_put (cs := #[.bool true, .int .i64 a1_0, .int .i64 x317002_44, .int .i64 0, .bool x317004_44, .bool false]) ?_ 5 _ rfl; (with_reducible repeat (first | refine bN ?_ _ | refine bD ?_ | refine bA ?_ _)); refine blk_put (cs := #[.bool true, .int .i64 a1_0, .int .i64 x317002_44, .int .i64 0, .bool false, .bool false]) ?_ 4 _ rfl; (with_reducible repeat (first | refine bN ?_ _ | refine bD ?_ | refine bA ?_ _)); refine blk_put (cs := #[.bool true, .int .i64 a1_0, .int .i64 x317002_44, .int .i64 0, .bool false, .bool false]) ?_ 3 _ rfl; (with_reducible repeat (first | refine bN ?_ _ | refine bD ?_ | refine bA ?_ _)); refine blk_put (cs := #[.bool true, .int .i64 a1_0, .int .i64 0, .int .i64 0, .bool false, .bool false]) ?_ 2 _ rfl; (with_reducible repeat (first | refine bN ?_ _ | refine bD ?_ | refine bA ?_ _)); refine blk_put (cs := #[.bool true, .int .i64 0, .int .i64 0, .int .i64 0, .bool false, .bool false]) ?_ 1 _ rfl; (with_reducible repeat (first | refine bN ?_ _ | refine bD ?_ | refine bA ?_ _)); refine blk_put (cs := #[.bool false, .int .i64 0, .int .i64 0, .int .i64 0, .bool false, .bool false]) ?_ 0 _ rfl; (with_reducible repeat (first | refine bN ?_ _ | refine bD ?_ | refine bA ?_ _)); refine blk_far ?_ NB312_316.out _; (with_reducible repeat (first | refine bN ?_ _ | refine bD ?_ | refine bA ?_ _)); exact BK312.out) Try.underlying52 rfl (by kernel_rfl)) rfl ?_
           exact ⟨by first | rfl | (simp [errW_none, errW_some] <;> rfl) | (simp [*, errW_none, errW_some] <;> rfl), by repeat (first | (with_reducible first | exact HB.out | apply lA | apply lN | apply lD | refine lS ?_ GE309.out | refine lS ?_ GE310.out | refine lS ?_ GE311.out | refine lS ?_ GE312.out | refine lS ?_ GE316.out) | exact HB.out)⟩
          ·replace c157 := Bool.eq_false_iff.mpr c157
           subst c157
           have H1 : (if t319 = true then (if a2_1 > t318 then (spec_Tick.j4 kj104 (decide (a1_0 ≥ 1)) a2_0 a2_1 a2_2 a2_3 a2_4 true a1_0 x317002_44 t318 x317004_44 x317005_44) else (spec_Tick.j4 kj104 false a2_0 a2_1 a2_2 a2_3 a2_4 true a1_0 x317002_44 t318 x317004_44 x317005_44)) else (some (true, 3, x317002_44, 0, x317004_44, x317005_44))) = some (r1, r2, r3, r4, r5, r6) := by rw [if_neg (show ¬ (false = true) by decide)] at H; exact H
           clear H
           have H := H1
           clear H1
           by_cases c167 : t319 = true
           ·subst c167
            have H1 : (if a2_1 > t318 then (spec_Tick.j4 kj104 (decide (a1_0 ≥ 1)) a2_0 a2_1 a2_2 a2_3 a2_4 true a1_0 x317002_44 t318 x317004_44 x317005_44) else (spec_Tick.j4 kj104 false a2_0 a2_1 a2_2 a2_3 a2_4 true a1_0 x317002_44 t318 x317004_44 x317005_44)) = some (r1, r2, r3, r4, r5, r6) := by rw [if_pos rfl] at H; exact H
            clear H
            have H := H1
            clear H1
            have HC168 := MK H
            clear H
            go_upto_region 20 with (fail)
            go_cut [96] (fun v96 wc => ∃ (kq : Nat) (x96_167 : Bool), v96 = .bool x96_167 ∧ Aside0 (spec_Tick.j4 kq x96_167 a2_0 a2_1 a2_2 a2_3 a2_4 true a1_0 x317002_44 t318 x317004_44 x317005_44 = some (r1, r2, r3, r4, r5, r6)) ∧ Aside0 (kq ≤ kj104) ∧ Aside0 (wc.heap[gb309]? = some (.cells #[.int .i64 a0_0, .int .i64 a0_1, .int .i64 a0_2, .int .i64 a0_3, .int .i64 a0_4] 32 (0, 0))) ∧ Aside0 (wc.heap[gb310]? = some (.cells #[.int .i64 a1_0, .int .i64 a1_1] 26 (0, 0))) ∧ Aside0 (wc.heap[gb311]? = some (.cells #[.int .i64 a2_0, .int .i64 a2_1, .int .i64 a2_2, .int .i64 a2_3, .bool a2_4] 38 (0, 0))) ∧ Aside0 (wc.heap[gb312]? = some (.cells #[.bool false, .int .i64 0, .int .i64 0, .int .i64 0, .bool false, .bool false] 52 (0, 0))) ∧ Aside0 (wc.heap[gb316]? = some (.cells #[.bool true, .int .i64 a1_0, .int .i64 x317002_44, .int .i64 t318, .bool x317004_44, .bool x317005_44] 52 (0, 0))) ∧ Aside0 (Below w.heap.size w wc))
            case first =>
             have H := HC168.out
             clear HC168
             by_cases c169 : a2_1 > t318
             ·rw [if_pos c169] at H
              have c169b0 : decide (t318 < a2_1) = true := decide_eq_true c169
              clear c169
              (first | rw [c169b0] | (simp only [i64_w, i32_w]; rw [c169b0]) | skip)
              have H' := MK H
              clear H
              have hnb170 := NB311_309.out
              have hnc170 := NB309_311.out
              have hnb171 := NB311_310.out
              have hnc171 := NB310_311.out
              have hnb172 := NB311_312.out
              have hnc172 := NB312_311.out
              have hnb173 := NB311_316.out
              have hnc173 := NB316_311.out
              obtain ⟨hcz174_0, hcz174_1, hcz174_2, hcz174_3, hcz174_4⟩ := bc5 BK311.out
              obtain ⟨hfz174_0, hfz174_1, hfz174_2, hfz174_3, hfz174_4⟩ := bf5 BK311.out
              have hnb175 := NB316_309.out
              have hnc175 := NB309_316.out
              have hnb176 := NB316_310.out
              have hnc176 := NB310_316.out
              have hnb177 := NB316_312.out
              have hnc177 := NB312_316.out
              obtain ⟨hcz178_0, hcz178_1, hcz178_2, hcz178_3, hcz178_4, hcz178_5⟩ := bc6 BK316.out
              obtain ⟨hfz178_0, hfz178_1, hfz178_2, hfz178_3, hfz178_4, hfz178_5⟩ := bf6 BK316.out
              have hnb179 := NB310_309.out
              have hnc179 := NB309_310.out
              have hnb180 := NB310_312.out
              have hnc180 := NB312_310.out
              obtain ⟨hcz181_0, hcz181_1⟩ := bc2 BK310.out
              obtain ⟨hfz181_0, hfz181_1⟩ := bf2 BK310.out
              go_wp2
              go_meet
              case rel => exact ⟨_, (decide (a1_0 ≥ 1)), (by first | rfl | (simp; done) | (simp [*]; done)), H', ⟨by have := HJ3.out; have := HJ44.out; have := HJ91.out; have := HJ104.out; first | omega | exact Nat.le_refl _⟩, ⟨by (with_reducible repeat (first | refine bN ?_ _ | refine bD ?_ | refine bA ?_ _)); exact BK309.out⟩, ⟨by (with_reducible repeat (first | refine bN ?_ _ | refine bD ?_ | refine bA ?_ _)); exact BK310.out⟩, ⟨by (with_reducible repeat (first | refine bN ?_ _ | refine bD ?_ | refine bA ?_ _)); exact BK311.out⟩, ⟨by (with_reducible repeat (first | refine bN ?_ _ | refine bD ?_ | refine bA ?_ _)); exact BK312.out⟩, ⟨by (with_reducible repeat (first | refine bN ?_ _ | refine bD ?_ | refine bA ?_ _)); exact BK316.out⟩, ⟨by repeat (first | (with_reducible first | exact HB.out | apply lA | apply lN | apply lD | refine lS ?_ GE309.out | refine lS ?_ GE310.out | refine lS ?_ GE311.out | refine lS ?_ GE312.out | refine lS ?_ GE316.out) | exact HB.out)⟩⟩
             ·rw [if_neg c169] at H
              have c169b0 : decide (t318 < a2_1) = false := decide_eq_false c169
              clear c169
              (first | rw [c169b0] | (simp only [i64_w, i32_w]; rw [c169b0]) | skip)
              have H' := MK H
              clear H
              have hnb182 := NB311_309.out
              have hnc182 := NB309_311.out
              have hnb183 := NB311_310.out
              have hnc183 := NB310_311.out
              have hnb184 := NB311_312.out
              have hnc184 := NB312_311.out
              have hnb185 := NB311_316.out
              have hnc185 := NB316_311.out
              obtain ⟨hcz186_0, hcz186_1, hcz186_2, hcz186_3, hcz186_4⟩ := bc5 BK311.out
              obtain ⟨hfz186_0, hfz186_1, hfz186_2, hfz186_3, hfz186_4⟩ := bf5 BK311.out
              have hnb187 := NB316_309.out
              have hnc187 := NB309_316.out
              have hnb188 := NB316_310.out
              have hnc188 := NB310_316.out
              have hnb189 := NB316_312.out
              have hnc189 := NB312_316.out
              obtain ⟨hcz190_0, hcz190_1, hcz190_2, hcz190_3, hcz190_4, hcz190_5⟩ := bc6 BK316.out
              obtain ⟨hfz190_0, hfz190_1, hfz190_2, hfz190_3, hfz190_4, hfz190_5⟩ := bf6 BK316.out
              go_wp2
              go_meet
              case rel => exact ⟨_, (false), (by first | rfl | (simp; done) | (simp [*]; done)), H', ⟨by have := HJ3.out; have := HJ44.out; have := HJ91.out; have := HJ104.out; first | omega | exact Nat.le_refl _⟩, ⟨by (with_reducible repeat (first | refine bN ?_ _ | refine bD ?_ | refine bA ?_ _)); exact BK309.out⟩, ⟨by (with_reducible repeat (first | refine bN ?_ _ | refine bD ?_ | refine bA ?_ _)); exact BK310.out⟩, ⟨by (with_reducible repeat (first | refine bN ?_ _ | refine bD ?_ | refine bA ?_ _)); exact BK311.out⟩, ⟨by (with_reducible repeat (first | refine bN ?_ _ | refine bD ?_ | refine bA ?_ _)); exact BK312.out⟩, ⟨by (with_reducible repeat (first | refine bN ?_ _ | refine bD ?_ | refine bA ?_ _)); exact BK316.out⟩, ⟨by repeat (first | (with_reducible first | exact HB.out | apply lA | apply lN | apply lD | refine lS ?_ GE309.out | refine lS ?_ GE310.out | refine lS ?_ GE311.out | refine lS ?_ GE312.out | refine lS ?_ GE316.out) | exact HB.out)⟩⟩
            case rest =>
             clear HC168
             (try clear c40); (try clear c157); (try clear c167); (try clear hcz101_0); (try clear hcz101_1); (try clear hcz101_2); (try clear hcz101_3); (try clear hcz101_4); (try clear hcz110_0); (try clear hcz110_1); (try clear hcz110_2); (try clear hcz110_3); (try clear hcz110_4); (try clear hcz114_0); (try clear hcz114_1); (try clear hcz114_2); (try clear hcz114_3); (try clear hcz114_4); (try clear hcz118_0); (try clear hcz118_1); (try clear hcz118_2); (try clear hcz118_3); (try clear hcz118_4); (try clear hcz118_5); (try clear hcz119_0); (try clear hcz119_1); (try clear hcz119_2); (try clear hcz119_3); (try clear hcz119_4); (try clear hcz120_0); (try clear hcz120_1); (try clear hcz120_2); (try clear hcz120_3); (try clear hcz120_4); (try clear hcz49_0); (try clear hcz49_1); (try clear hcz55_0); (try clear hcz55_1); (try clear hcz55_2); (try clear hcz55_3); (try clear hcz55_4); (try clear hcz55_5); (try clear hcz58_0); (try clear hcz58_1); (try clear hcz58_2); (try clear hcz58_3); (try clear hcz58_4); (try clear hcz59_0); (try clear hcz59_1); (try clear hcz97_0); (try clear hcz97_1); (try clear hcz97_2); (try clear hcz97_3); (try clear hcz97_4); (try clear hcz97_5); (try clear hfz101_0); (try clear hfz101_1); (try clear hfz101_2); (try clear hfz101_3); (try clear hfz101_4); (try clear hfz110_0); (try clear hfz110_1); (try clear hfz110_2); (try clear hfz110_3); (try clear hfz110_4); (try clear hfz114_0); (try clear hfz114_1); (try clear hfz114_2); (try clear hfz114_3); (try clear hfz114_4); (try clear hfz118_0); (try clear hfz118_1); (try clear hfz118_2); (try clear hfz118_3); (try clear hfz118_4); (try clear hfz118_5); (try clear hfz119_0); (try clear hfz119_1); (try clear hfz119_2); (try clear hfz119_3); (try clear hfz119_4); (try clear hfz120_0); (try clear hfz120_1); (try clear hfz120_2); (try clear hfz120_3); (try clear hfz120_4); (try clear hfz49_0); (try clear hfz49_1); (try clear hfz55_0); (try clear hfz55_1); (try clear hfz55_2); (try clear hfz55_3); (try clear hfz55_4); (try clear hfz55_5); (try clear hfz58_0); (try clear hfz58_1); (try clear hfz58_2); (try clear hfz58_3); (try clear hfz58_4); (try clear hfz59_0); (try clear hfz59_1); (try clear hfz97_0); (try clear hfz97_1); (try clear hfz97_2); (try clear hfz97_3); (try clear hfz97_4); (try clear hfz97_5)
             obtain ⟨kq, x96_167, rfl, HA, HJ167, BK309, BK310, BK311, BK312, BK316, HB⟩ := hcut
             cases kq with
             | zero => exact absurd HA.out (by simp [spec_Tick.j4])
             | succ kj167 =>
              have H := HA.out
              clear HA
              simp only [spec_Tick.j4] at H
              by_cases c191 : x96_167 = true
              ·subst c191
               have H1 : (some (true, 2, x317002_44, t318, x317004_44, x317005_44)) = some (r1, r2, r3, r4, r5, r6) := by rw [if_pos rfl] at H; exact H
               clear H
               have H := H1
               clear H1
               simp only [Option.some.injEq, Prod.mk.injEq] at H
               obtain ⟨rfl, rfl, rfl, rfl, rfl, rfl⟩ := H
               have hnb192 := NB316_309.out
               have hnc192 := NB309_316.out
               have hnb193 := NB316_310.out
               have hnc193 := NB310_316.out
               have hnb194 := NB316_311.out
               have hnc194 := NB311_316.out
               have hnb195 := NB316_312.out
               have hnc195 := NB312_316.out
               obtain ⟨hcz196_0, hcz196_1, hcz196_2, hcz196_3, hcz196_4, hcz196_5⟩ := bc6 BK316.out
               obtain ⟨hfz196_0, hfz196_1, hfz196_2, hfz196_3, hfz196_4, hfz196_5⟩ := bf6 BK316.out
               have hnb197 := NB312_309.out
               have hnc197 := NB309_312.out
               have hnb198 := NB312_310.out
               have hnc198 := NB310_312.out
               have hnb199 := NB312_311.out
               have hnc199 := NB311_312.out
               obtain ⟨hcz200_0, hcz200_1, hcz200_2, hcz200_3, hcz200_4, hcz200_5⟩ := bc6 BK312.out
               obtain ⟨hfz200_0, hfz200_1, hfz200_2, hfz200_3, hfz200_4, hfz200_5⟩ := bf6 BK312.out
               go_wp2
               refine bodyPost_ret (results_cell_row rfl _ _ gb312 52 #[.bool true, .int .i64 2, .int .i64 x317002_44, .int .i64 t318, .bool x317004_44, .bool x317005_44] (0, 0) _ rfl (by (with_reducible repeat (first | refine bN ?_ _ | refine bD ?_ | refine bA ?_ _)); refine blk_put (cs := #[.bool true, .int .i64 2, .int .i64 x317002_44, .int .i64 t318, .bool x317004_44, .bool false]) ?_ 5 _ rfl; (with_reducible repeat (first | refine bN ?_ _ | refine bD ?_ | refine bA ?_ _)); refine blk_put (cs := #[.bool true, .int .i64 2, .int .i64 x317002_44, .int .i64 t318, .bool false, .bool false]) ?_ 4 _ rfl; (with_reducible repeat (first | refine bN ?_ _ | refine bD ?_ | refine bA ?_ _)); refine blk_put (cs := #[.bool true, .int .i64 2, .int .i64 x317002_44, .int .i64 0, .bool false, .bool false]) ?_ 3 _ rfl; (with_reducible repeat (first | refine bN ?_ _ | refine bD ?_ | refine bA ?_ _)); refine blk_put (cs := #[.bool true, .int .i64 2, .int .i64 0, .int .i64 0, .bool false, .bool false]) ?_ 2 _ rfl; (with_reducible repeat (first | refine bN ?_ _ | refine bD ?_ | refine bA ?_ _)); refine blk_put (cs := #[.bool true, .int .i64 0, .int .i64 0, .int .i64 0, .bool false, .bool false]) ?_ 1 _ rfl; (with_reducible repeat (first | refine bN ?_ _ | refine bD ?_ | refine bA ?_ _)); refine blk_put (cs := #[.bool false, .int .i64 0, .int .i64 0, .int .i64 0, .bool false, .bool false]) ?_ 0 _ rfl; (with_reducible repeat (first | refine bN ?_ _ | refine bD ?_ | refine bA ?_ _)); refine blk_far ?_ NB312_316.out _; (with_reducible repeat (first | refine bN ?_ _ | refine bD ?_ | refine bA ?_ _)); exact BK312.out) Try.underlying52 rfl (by kernel_rfl)) rfl ?_
               exact ⟨by first | rfl | (simp [errW_none, errW_some] <;> rfl) | (simp [*, errW_none, errW_some] <;> rfl), by repeat (first | (with_reducible first | exact HB.out | apply lA | apply lN | apply lD | refine lS ?_ GE309.out | refine lS ?_ GE310.out | refine lS ?_ GE311.out | refine lS ?_ GE312.out | refine lS ?_ GE316.out) | exact HB.out)⟩
              ·replace c191 := Bool.eq_false_iff.mpr c191
               subst c191
               have H1 : (if a2_1 > t318 then (some (true, 1, x317002_44, t318, x317004_44, x317005_44)) else (some (true, 0, x317002_44, t318, x317004_44, x317005_44))) = some (r1, r2, r3, r4, r5, r6) := by rw [if_neg (show ¬ (false = true) by decide)] at H; exact H
               clear H
               have H := H1
               clear H1
               have HC201 := MK H
               clear H
               have hnb202 := NB311_309.out
               have hnc202 := NB309_311.out
               have hnb203 := NB311_310.out
               have hnc203 := NB310_311.out
               have hnb204 := NB311_312.out
               have hnc204 := NB312_311.out
               have hnb205 := NB311_316.out
               have hnc205 := NB316_311.out
               obtain ⟨hcz206_0, hcz206_1, hcz206_2, hcz206_3, hcz206_4⟩ := bc5 BK311.out
               obtain ⟨hfz206_0, hfz206_1, hfz206_2, hfz206_3, hfz206_4⟩ := bf5 BK311.out
               have hnb207 := NB316_309.out
               have hnc207 := NB309_316.out
               have hnb208 := NB316_310.out
               have hnc208 := NB310_316.out
               have hnb209 := NB316_312.out
               have hnc209 := NB312_316.out
               obtain ⟨hcz210_0, hcz210_1, hcz210_2, hcz210_3, hcz210_4, hcz210_5⟩ := bc6 BK316.out
               obtain ⟨hfz210_0, hfz210_1, hfz210_2, hfz210_3, hfz210_4, hfz210_5⟩ := bf6 BK316.out
               go_upto_if 109 with (fail)
               have H := HC201.out
               clear HC201
               by_cases c211 : a2_1 > t318
               ·rw [if_pos c211] at H
                have c211b0 : decide (t318 < a2_1) = true := decide_eq_true c211
                clear c211
                (first | rw [c211b0] | (simp only [i64_w, i32_w]; rw [c211b0]) | skip)
                simp only [Option.some.injEq, Prod.mk.injEq] at H
                obtain ⟨rfl, rfl, rfl, rfl, rfl, rfl⟩ := H
                have hnb212 := NB316_309.out
                have hnc212 := NB309_316.out
                have hnb213 := NB316_310.out
                have hnc213 := NB310_316.out
                have hnb214 := NB316_311.out
                have hnc214 := NB311_316.out
                have hnb215 := NB316_312.out
                have hnc215 := NB312_316.out
                obtain ⟨hcz216_0, hcz216_1, hcz216_2, hcz216_3, hcz216_4, hcz216_5⟩ := bc6 BK316.out
                obtain ⟨hfz216_0, hfz216_1, hfz216_2, hfz216_3, hfz216_4, hfz216_5⟩ := bf6 BK316.out
                have hnb217 := NB312_309.out
                have hnc217 := NB309_312.out
                have hnb218 := NB312_310.out
                have hnc218 := NB310_312.out
                have hnb219 := NB312_311.out
                have hnc219 := NB311_312.out
                obtain ⟨hcz220_0, hcz220_1, hcz220_2, hcz220_3, hcz220_4, hcz220_5⟩ := bc6 BK312.out
                obtain ⟨hfz220_0, hfz220_1, hfz220_2, hfz220_3, hfz220_4, hfz220_5⟩ := bf6 BK312.out
                go_wp2
                refine bodyPost_ret (results_cell_row rfl _ _ gb312 52 #[.bool true, .int .i64 1, .int .i64 x317002_44, .int .i64 t318, .bool x317004_44, .bool x317005_44] (0, 0) _ rfl (by (with_reducible repeat (first | refine bN ?_ _ | refine bD ?_ | refine bA ?_ _)); refine blk_put (cs := #[.bool true, .int .i64 1, .int .i64 x317002_44, .int .i64 t318, .bool x317004_44, .bool false]) ?_ 5 _ rfl; (with_reducible repeat (first | refine bN ?_ _ | refine bD ?_ | refine bA ?_ _)); refine blk_put (cs := #[.bool true, .int .i64 1, .int .i64 x317002_44, .int .i64 t318, .bool false, .bool false]) ?_ 4 _ rfl; (with_reducible repeat (first | refine bN ?_ _ | refine bD ?_ | refine bA ?_ _)); refine blk_put (cs := #[.bool true, .int .i64 1, .int .i64 x317002_44, .int .i64 0, .bool false, .bool false]) ?_ 3 _ rfl; (with_reducible repeat (first | refine bN ?_ _ | refine bD ?_ | refine bA ?_ _)); refine blk_put (cs := #[.bool true, .int .i64 1, .int .i64 0, .int .i64 0, .bool false, .bool false]) ?_ 2 _ rfl; (with_reducible repeat (first | refine bN ?_ _ | refine bD ?_ | refine bA ?_ _)); refine blk_put (cs := #[.bool true, .int .i64 0, .int .i64 0, .int .i64 0, .bool false, .bool false]) ?_ 1 _ rfl; (with_reducible repeat (first | refine bN ?_ _ | refine bD ?_ | refine bA ?_ _)); refine blk_put (cs := #[.bool false, .int .i64 0, .int .i64 0, .int .i64 0, .bool false, .bool false]) ?_ 0 _ rfl; (with_reducible repeat (first | refine bN ?_ _ | refine bD ?_ | refine bA ?_ _)); refine blk_far ?_ NB312_316.out _; (with_reducible repeat (first | refine bN ?_ _ | refine bD ?_ | refine bA ?_ _)); exact BK312.out) Try.underlying52 rfl (by kernel_rfl)) rfl ?_
                exact ⟨by first | rfl | (simp [errW_none, errW_some] <;> rfl) | (simp [*, errW_none, errW_some] <;> rfl), by repeat (first | (with_reducible first | exact HB.out | apply lA | apply lN | apply lD | refine lS ?_ GE309.out | refine lS ?_ GE310.out | refine lS ?_ GE311.out | refine lS ?_ GE312.out | refine lS ?_ GE316.out) | exact HB.out)⟩
               ·rw [if_neg c211] at H
                have c211b0 : decide (t318 < a2_1) = false := decide_eq_false c211
                clear c211
                (first | rw [c211b0] | (simp only [i64_w, i32_w]; rw [c211b0]) | skip)
                simp only [Option.some.injEq, Prod.mk.injEq] at H
                obtain ⟨rfl, rfl, rfl, rfl, rfl, rfl⟩ := H
                have hnb221 := NB316_309.out
                have hnc221 := NB309_316.out
                have hnb222 := NB316_310.out
                have hnc222 := NB310_316.out
                have hnb223 := NB316_311.out
                have hnc223 := NB311_316.out
                have hnb224 := NB316_312.out
                have hnc224 := NB312_316.out
                obtain ⟨hcz225_0, hcz225_1, hcz225_2, hcz225_3, hcz225_4, hcz225_5⟩ := bc6 BK316.out
                obtain ⟨hfz225_0, hfz225_1, hfz225_2, hfz225_3, hfz225_4, hfz225_5⟩ := bf6 BK316.out
                have hnb226 := NB312_309.out
                have hnc226 := NB309_312.out
                have hnb227 := NB312_310.out
                have hnc227 := NB310_312.out
                have hnb228 := NB312_311.out
                have hnc228 := NB311_312.out
                obtain ⟨hcz229_0, hcz229_1, hcz229_2, hcz229_3, hcz229_4, hcz229_5⟩ := bc6 BK312.out
                obtain ⟨hfz229_0, hfz229_1, hfz229_2, hfz229_3, hfz229_4, hfz229_5⟩ := bf6 BK312.out
                go_wp2
                refine bodyPost_ret (results_cell_row rfl _ _ gb312 52 #[.bool true, .int .i64 0, .int .i64 x317002_44, .int .i64 t318, .bool x317004_44, .bool x317005_44] (0, 0) _ rfl (by (with_reducible repeat (first | refine bN ?_ _ | refine bD ?_ | refine bA ?_ _)); refine blk_put (cs := #[.bool true, .int .i64 0, .int .i64 x317002_44, .int .i64 t318, .bool x317004_44, .bool false]) ?_ 5 _ rfl; (with_reducible repeat (first | refine bN ?_ _ | refine bD ?_ | refine bA ?_ _)); refine blk_put (cs := #[.bool true, .int .i64 0, .int .i64 x317002_44, .int .i64 t318, .bool false, .bool false]) ?_ 4 _ rfl; (with_reducible repeat (first | refine bN ?_ _ | refine bD ?_ | refine bA ?_ _)); refine blk_put (cs := #[.bool true, .int .i64 0, .int .i64 x317002_44, .int .i64 0, .bool false, .bool false]) ?_ 3 _ rfl; (with_reducible repeat (first | refine bN ?_ _ | refine bD ?_ | refine bA ?_ _)); refine blk_put (cs := #[.bool true, .int .i64 0, .int .i64 0, .int .i64 0, .bool false, .bool false]) ?_ 2 _ rfl; (with_reducible repeat (first | refine bN ?_ _ | refine bD ?_ | refine bA ?_ _)); refine blk_put (cs := #[.bool true, .int .i64 0, .int .i64 0, .int .i64 0, .bool false, .bool false]) ?_ 1 _ rfl; (with_reducible repeat (first | refine bN ?_ _ | refine bD ?_ | refine bA ?_ _)); refine blk_put (cs := #[.bool false, .int .i64 0, .int .i64 0, .int .i64 0, .bool false, .bool false]) ?_ 0 _ rfl; (with_reducible repeat (first | refine bN ?_ _ | refine bD ?_ | refine bA ?_ _)); refine blk_far ?_ NB312_316.out _; (with_reducible repeat (first | refine bN ?_ _ | refine bD ?_ | refine bA ?_ _)); exact BK312.out) Try.underlying52 rfl (by kernel_rfl)) rfl ?_
                exact ⟨by first | rfl | (simp [errW_none, errW_some] <;> rfl) | (simp [*, errW_none, errW_some] <;> rfl), by repeat (first | (with_reducible first | exact HB.out | apply lA | apply lN | apply lD | refine lS ?_ GE309.out | refine lS ?_ GE310.out | refine lS ?_ GE311.out | refine lS ?_ GE312.out | refine lS ?_ GE316.out) | exact HB.out)⟩
           ·replace c167 := Bool.eq_false_iff.mpr c167
            subst c167
            have H1 : (some (true, 3, x317002_44, 0, x317004_44, x317005_44)) = some (r1, r2, r3, r4, r5, r6) := by rw [if_neg (show ¬ (false = true) by decide)] at H; exact H
            clear H
            have H := H1
            clear H1
            simp only [Option.some.injEq, Prod.mk.injEq] at H
            obtain ⟨rfl, rfl, rfl, rfl, rfl, rfl⟩ := H
            have hnb230 := NB316_309.out
            have hnc230 := NB309_316.out
            have hnb231 := NB316_310.out
            have hnc231 := NB310_316.out
            have hnb232 := NB316_311.out
            have hnc232 := NB311_316.out
            have hnb233 := NB316_312.out
            have hnc233 := NB312_316.out
            obtain ⟨hcz234_0, hcz234_1, hcz234_2, hcz234_3, hcz234_4, hcz234_5⟩ := bc6 BK316.out
            obtain ⟨hfz234_0, hfz234_1, hfz234_2, hfz234_3, hfz234_4, hfz234_5⟩ := bf6 BK316.out
            have hnb235 := NB312_309.out
            have hnc235 := NB309_312.out
            have hnb236 := NB312_310.out
            have hnc236 := NB310_312.out
            have hnb237 := NB312_311.out
            have hnc237 := NB311_312.out
            obtain ⟨hcz238_0, hcz238_1, hcz238_2, hcz238_3, hcz238_4, hcz238_5⟩ := bc6 BK312.out
            obtain ⟨hfz238_0, hfz238_1, hfz238_2, hfz238_3, hfz238_4, hfz238_5⟩ := bf6 BK312.out
            go_wp2
            refine bodyPost_ret (results_cell_row rfl _ _ gb312 52 #[.bool true, .int .i64 3, .int .i64 x317002_44, .int .i64 0, .bool x317004_44, .bool x317005_44] (0, 0) _ rfl (by (with_reducible repeat (first | refine bN ?_ _ | refine bD ?_ | refine bA ?_ _)); refine blk_put (cs := #[.bool true, .int .i64 3, .int .i64 x317002_44, .int .i64 0, .bool x317004_44, .bool false]) ?_ 5 _ rfl; (with_reducible repeat (first | refine bN ?_ _ | refine bD ?_ | refine bA ?_ _)); refine blk_put (cs := #[.bool true, .int .i64 3, .int .i64 x317002_44, .int .i64 0, .bool false, .bool false]) ?_ 4 _ rfl; (with_reducible repeat (first | refine bN ?_ _ | refine bD ?_ | refine bA ?_ _)); refine blk_put (cs := #[.bool true, .int .i64 3, .int .i64 x317002_44, .int .i64 0, .bool false, .bool false]) ?_ 3 _ rfl; (with_reducible repeat (first | refine bN ?_ _ | refine bD ?_ | refine bA ?_ _)); refine blk_put (cs := #[.bool true, .int .i64 3, .int .i64 0, .int .i64 0, .bool false, .bool false]) ?_ 2 _ rfl; (with_reducible repeat (first | refine bN ?_ _ | refine bD ?_ | refine bA ?_ _)); refine blk_put (cs := #[.bool true, .int .i64 0, .int .i64 0, .int .i64 0, .bool false, .bool false]) ?_ 1 _ rfl; (with_reducible repeat (first | refine bN ?_ _ | refine bD ?_ | refine bA ?_ _)); refine blk_put (cs := #[.bool false, .int .i64 0, .int .i64 0, .int .i64 0, .bool false, .bool false]) ?_ 0 _ rfl; (with_reducible repeat (first | refine bN ?_ _ | refine bD ?_ | refine bA ?_ _)); refine blk_far ?_ NB312_316.out _; (with_reducible repeat (first | refine bN ?_ _ | refine bD ?_ | refine bA ?_ _)); refine blk_far ?_ NB312_316.out _; (with_reducible repeat (first | refine bN ?_ _ | refine bD ?_ | refine bA ?_ _)); exact BK312.out) Try.underlying52 rfl (by kernel_rfl)) rfl ?_
            exact ⟨by first | rfl | (simp [errW_none, errW_some] <;> rfl) | (simp [*, errW_none, errW_some] <;> rfl), by repeat (first | (with_reducible first | exact HB.out | apply lA | apply lN | apply lD | refine lS ?_ GE309.out | refine lS ?_ GE310.out | refine lS ?_ GE311.out | refine lS ?_ GE312.out | refine lS ?_ GE316.out) | exact HB.out)⟩

end Go.Proofs.Ytnikfadkmhcalaa.Q
