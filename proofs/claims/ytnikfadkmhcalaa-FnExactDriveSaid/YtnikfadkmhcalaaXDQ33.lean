/- Walks: a call of each function answers what its Lean function tells; no condition but that it tells something. -/
import Derived.Test.YtnikfadkmhcalaaXDQ0
import Derived.Test.YtnikfadkmhcalaaXDQ21
namespace Go.Proofs.Ytnikfadkmhcalaa.Q
open Go.RowKit Go.Proofs.YtnikfadkmhcalaaW.PrintWords Go.Proofs.YtnikfadkmhcalaaW.PrintLast Go.Proofs.YtnikfadkmhcalaaW.PrintMore
attribute [local go_sem] max2_int min2_int max_two min_two max_three min_three max_four min_four   -- for this text's walks alone
set_option linter.unusedVariables false
set_option linter.unusedSimpArgs false

/-! ### laws_eqTrue: function 72 -/
def laws_eqTrue.f (a0_0 : Int) (a0_1 : Int) (a0_2 : Bool) (a0_3 : Int) (a0_4 : Int) (a0_5 : Int) (a0_6 : Bool) (a0_7 : Bool) (a1_0 : Int) (a1_1 : Int) (a1_2 : Bool) (a1_3 : Int) (a1_4 : Int) (a1_5 : Int) (a1_6 : Bool) (a1_7 : Bool) : Option (Bool) := if a0_0 = a1_0 then (if a0_1 = a1_1 then ((laws_eqSaid.f a0_2 a0_3 a0_4 a0_5 a0_6 a0_7 a1_2 a1_3 a1_4 a1_5 a1_6 a1_7).bind fun t568 => (if t568 = true then (some true) else (some false))) else (some false)) else (some false)
set_option maxHeartbeats 8000000 in
set_option maxRecDepth 100000 in
theorem laws_eqTrue.calls (a0_0 : Int) (a0_1 : Int) (a0_2 : Bool) (a0_3 : Int) (a0_4 : Int) (a0_5 : Int) (a0_6 : Bool) (a0_7 : Bool) (a1_0 : Int) (a1_1 : Int) (a1_2 : Bool) (a1_3 : Int) (a1_4 : Int) (a1_5 : Int) (a1_6 : Bool) (a1_7 : Bool) (r : Bool) (w : World) (h : laws_eqTrue.f a0_0 a0_1 a0_2 a0_3 a0_4 a0_5 a0_6 a0_7 a1_0 a1_1 a1_2 a1_3 a1_4 a1_5 a1_6 a1_7 = some r) :
  Calls Try.prog 72 #[.agg #[.int .i64 a0_0, .int .i64 a0_1, .bool a0_2, .int .i64 a0_3, .int .i64 a0_4, .int .i64 a0_5, .bool a0_6, .bool a0_7], .agg #[.int .i64 a1_0, .int .i64 a1_1, .bool a1_2, .int .i64 a1_3, .int .i64 a1_4, .int .i64 a1_5, .bool a1_6, .bool a1_7]] w fun e w' => e = .returned (.bool r) ∧ Below w.heap.size w w' := by
 have hu86 := Try.underlying86
 have hu52 := Try.underlying52
 have HB := MK (Below.refl w.heap.size w)
 have H : (if a0_0 = a1_0 then (if a0_1 = a1_1 then ((laws_eqSaid.f a0_2 a0_3 a0_4 a0_5 a0_6 a0_7 a1_2 a1_3 a1_4 a1_5 a1_6 a1_7).bind fun t568 => (if t568 = true then (some true) else (some false))) else (some false)) else (some false)) = some r := h
 clear h
 have HC3 := MK H
 clear H
 go_enter Try.func72, Try.ntmps72
 go_upto_if 9 with (first | ((with_reducible refine gate_dst (N := 2) rfl ?_); refine box_event ?hg (N := 2) ?hd (cs := #[.int .i64 a0_0, .int .i64 a0_1, .bool a0_2, .int .i64 a0_3, .int .i64 a0_4, .int .i64 a0_5, .bool a0_6, .bool a0_7]) (t := 86) ?hr ?_; (case hd => rfl); (case hg => rfl); (case hr => first | (go_simp; done) | (go_simp; rfl)); intro gb566 hg w4 hbox hb; have n0_ := MK (below_step (by repeat (first | (with_reducible first | exact HB.out | apply lA | apply lN | apply lD) | exact HB.out)) hb); have n1_ := MK (hbox); have n2_ := MK ((by rw [hg]; exact (below_size (by repeat (first | (with_reducible first | exact HB.out | apply lA | apply lN | apply lD) | exact HB.out))) : w.heap.size ≤ gb566)); have n3_ := MK ((by rw [hg]; exact (below_size (by repeat (first | (with_reducible first | exact HB.out | apply lA | apply lN | apply lD) | exact HB.out))) : w.heap.size ≤ gb566)); clear HB; have HB := n0_; have BK566 := n1_; have GW566 := n2_; have GE566 := n3_; clear n0_ n1_ n2_ n3_; clear hb hbox hg) | ((with_reducible refine gate_dst (N := 3) rfl ?_); refine box_event ?hg (N := 3) ?hd (cs := #[.int .i64 a1_0, .int .i64 a1_1, .bool a1_2, .int .i64 a1_3, .int .i64 a1_4, .int .i64 a1_5, .bool a1_6, .bool a1_7]) (t := 86) ?hr ?_; (case hd => rfl); (case hg => rfl); (case hr => first | (go_simp; done) | (go_simp; rfl)); intro gb567 hg w5 hbox hb; have n0_ := MK (blk_below (by (with_reducible repeat (first | refine bN ?_ _ | refine bD ?_ | refine bA ?_ _)); exact BK566.out) hb); have n1_ := MK (below_step (by repeat (first | (with_reducible first | exact HB.out | apply lA | apply lN | apply lD | refine lS ?_ GE566.out) | exact HB.out)) hb); have n2_ := MK (hbox); have n3_ := MK ((by rw [hg]; exact (below_size (by repeat (first | (with_reducible first | exact HB.out | apply lA | apply lN | apply lD | refine lS ?_ GE566.out) | exact HB.out))) : w.heap.size ≤ gb567)); have n4_ := MK ((by rw [hg]; exact (below_size (by repeat (first | (with_reducible first | exact HB.out | apply lA | apply lN | apply lD | refine lS ?_ GE566.out) | exact HB.out))) : w.heap.size ≤ gb567)); have n5_ := MK ((by rw [hg]; exact Nat.ne_of_lt (blk_lt (by (with_reducible repeat (first | refine bN ?_ _ | refine bD ?_ | refine bA ?_ _)); exact BK566.out)) : gb566 ≠ gb567)); have n6_ := MK ((by rw [hg]; exact Nat.ne_of_gt (blk_lt (by (with_reducible repeat (first | refine bN ?_ _ | refine bD ?_ | refine bA ?_ _)); exact BK566.out)) : gb567 ≠ gb566)); clear BK566; clear HB; have BK566 := n0_; have HB := n1_; have BK567 := n2_; have GW567 := n3_; have GE567 := n4_; have NB566_567 := n5_; have NB567_566 := n6_; clear n0_ n1_ n2_ n3_ n4_ n5_ n6_; clear hb hbox hg; have hnb6 := NB566_567.out; have hnc6 := NB567_566.out; obtain ⟨hcz7_0, hcz7_1, hcz7_2, hcz7_3, hcz7_4, hcz7_5, hcz7_6, hcz7_7⟩ := bc8 BK566.out; obtain ⟨hfz7_0, hfz7_1, hfz7_2, hfz7_3, hfz7_4, hfz7_5, hfz7_6, hfz7_7⟩ := bf8 BK566.out; obtain ⟨hcz8_0, hcz8_1, hcz8_2, hcz8_3, hcz8_4, hcz8_5, hcz8_6, hcz8_7⟩ := bc8 BK567.out; obtain ⟨hfz8_0, hfz8_1, hfz8_2, hfz8_3, hfz8_4, hfz8_5, hfz8_6, hfz8_7⟩ := bf8 BK567.out))
 (try simp only [Act.put, List.setIfInBounds_toArray, List.set_cons_zero, List.set_cons_succ])
 have H := HC3.out
 clear HC3
 by_cases c9 : a0_0 = a1_0
 ·rw [if_pos c9] at H
  have c9b0 : (a0_0 == a1_0) = true := beq_iff_eq.mpr c9
  have c9b1 : (a0_0 != a1_0) = false := bne_eq_false_iff_eq.mpr c9
  clear c9
  (first | rw [c9b0] | (simp only [i64_w, i32_w]; rw [c9b0]) | rw [c9b1] | skip)
  have HC10 := MK H
  clear H
  have hnb11 := NB566_567.out
  have hnc11 := NB567_566.out
  obtain ⟨hcz12_0, hcz12_1, hcz12_2, hcz12_3, hcz12_4, hcz12_5, hcz12_6, hcz12_7⟩ := bc8 BK566.out
  obtain ⟨hfz12_0, hfz12_1, hfz12_2, hfz12_3, hfz12_4, hfz12_5, hfz12_6, hfz12_7⟩ := bf8 BK566.out
  obtain ⟨hcz13_0, hcz13_1, hcz13_2, hcz13_3, hcz13_4, hcz13_5, hcz13_6, hcz13_7⟩ := bc8 BK567.out
  obtain ⟨hfz13_0, hfz13_1, hfz13_2, hfz13_3, hfz13_4, hfz13_5, hfz13_6, hfz13_7⟩ := bf8 BK567.out
  go_upto_if 14 with (fail)
  have H := HC10.out
  clear HC10
  by_cases c14 : a0_1 = a1_1
  ·rw [if_pos c14] at H
   have c14b0 : (a0_1 == a1_1) = true := beq_iff_eq.mpr c14
   have c14b1 : (a0_1 != a1_1) = false := bne_eq_false_iff_eq.mpr c14
   clear c14
   (first | rw [c14b0] | (simp only [i64_w, i32_w]; rw [c14b0]) | rw [c14b1] | skip)
   replace H := Option.bind_eq_some_iff.mp H
   obtain ⟨t568, A150, H⟩ := H
   replace H : (if t568 = true then (some true) else (some false)) = some r := H
   have A15 := MK A150
   clear A150
   by_cases c16 : t568 = true
   ·subst c16
    have H1 : (some true) = some r := by rw [if_pos rfl] at H; exact H
    clear H
    have H := H1
    clear H1
    obtain rfl := Option.some.inj H
    have hnb17 := NB566_567.out
    have hnc17 := NB567_566.out
    obtain ⟨hcz18_0, hcz18_1, hcz18_2, hcz18_3, hcz18_4, hcz18_5, hcz18_6, hcz18_7⟩ := bc8 BK566.out
    obtain ⟨hfz18_0, hfz18_1, hfz18_2, hfz18_3, hfz18_4, hfz18_5, hfz18_6, hfz18_7⟩ := bf8 BK566.out
    obtain ⟨hcz19_0, hcz19_1, hcz19_2, hcz19_3, hcz19_4, hcz19_5, hcz19_6, hcz19_7⟩ := bc8 BK567.out
    obtain ⟨hfz19_0, hfz19_1, hfz19_2, hfz19_3, hfz19_4, hfz19_5, hfz19_6, hfz19_7⟩ := bf8 BK567.out
    go_wp2_with (first | ((with_reducible refine gate_callee (f := 37) rfl ?_); refine goesL_ (some 19) rfl rfl Try.func37 (by kernel_rfl) rfl #[.agg #[.bool a0_2, .int .i64 a0_3, .int .i64 a0_4, .int .i64 a0_5, .bool a0_6, .bool a0_7], .agg #[.bool a1_2, .int .i64 a1_3, .int .i64 a1_4, .int .i64 a1_5, .bool a1_6, .bool a1_7]] rfl (by (try simp only [List.map_toArray, List.map_cons, List.map_nil]); first | done | rfl | (simp only [List.length_drop, List.length_take]; rfl)) ?_; (with_reducible refine (laws_eqSaid.calls a0_2 a0_3 a0_4 a0_5 a0_6 a0_7 a1_2 a1_3 a1_4 a1_5 a1_6 a1_7 true _ A15.out).mono ?_); rintro e w20 ⟨rfl, hb⟩; refine ⟨_, rfl, ?_⟩; have n0_ := MK (blk_below (by (with_reducible repeat (first | refine bN ?_ _ | refine bD ?_ | refine bA ?_ _)); exact BK566.out) hb); have n1_ := MK (blk_below (by (with_reducible repeat (first | refine bN ?_ _ | refine bD ?_ | refine bA ?_ _)); exact BK567.out) hb); have n2_ := MK (below_step (by repeat (first | (with_reducible first | exact HB.out | apply lA | apply lN | apply lD | refine lS ?_ GE566.out | refine lS ?_ GE567.out) | exact HB.out)) hb); clear BK566; clear BK567; clear HB; have BK566 := n0_; have BK567 := n1_; have HB := n2_; clear n0_ n1_ n2_; (try clear hb); (try clear hb2); (try clear hk); (try clear hi)))
    go_ret
    exact ⟨by first | rfl | (simp [errW_none, errW_some] <;> rfl) | (simp [*, errW_none, errW_some] <;> rfl), by repeat (first | (with_reducible first | exact HB.out | apply lA | apply lN | apply lD | refine lS ?_ GE566.out | refine lS ?_ GE567.out) | exact HB.out)⟩
   ·replace c16 := Bool.eq_false_iff.mpr c16
    subst c16
    have H1 : (some false) = some r := by rw [if_neg (show ¬ (false = true) by decide)] at H; exact H
    clear H
    have H := H1
    clear H1
    obtain rfl := Option.some.inj H
    have hnb21 := NB566_567.out
    have hnc21 := NB567_566.out
    obtain ⟨hcz22_0, hcz22_1, hcz22_2, hcz22_3, hcz22_4, hcz22_5, hcz22_6, hcz22_7⟩ := bc8 BK566.out
    obtain ⟨hfz22_0, hfz22_1, hfz22_2, hfz22_3, hfz22_4, hfz22_5, hfz22_6, hfz22_7⟩ := bf8 BK566.out
    obtain ⟨hcz23_0, hcz23_1, hcz23_2, hcz23_3, hcz23_4, hcz23_5, hcz23_6, hcz23_7⟩ := bc8 BK567.out
    obtain ⟨hfz23_0, hfz23_1, hfz23_2, hfz23_3, hfz23_4, hfz23_5, hfz23_6, hfz23_7⟩ := bf8 BK567.out
    go_wp2_with (first | ((with_reducible refine gate_callee (f := 37) rfl ?_); refine goesL_ (some 19) rfl rfl Try.func37 (by kernel_rfl) rfl #[.agg #[.bool a0_2, .int .i64 a0_3, .int .i64 a0_4, .int .i64 a0_5, .bool a0_6, .bool a0_7], .agg #[.bool a1_2, .int .i64 a1_3, .int .i64 a1_4, .int .i64 a1_5, .bool a1_6, .bool a1_7]] rfl (by (try simp only [List.map_toArray, List.map_cons, List.map_nil]); first | done | rfl | (simp only [List.length_drop, List.length_take]; rfl)) ?_; (with_reducible refine (laws_eqSaid.calls a0_2 a0_3 a0_4 a0_5 a0_6 a0_7 a1_2 a1_3 a1_4 a1_5 a1_6 a1_7 false _ A15.out).mono ?_); rintro e w24 ⟨rfl, hb⟩; refine ⟨_, rfl, ?_⟩; have n0_ := MK (blk_below (by (with_reducible repeat (first | refine bN ?_ _ | refine bD ?_ | refine bA ?_ _)); exact BK566.out) hb); have n1_ := MK (blk_below (by (with_reducible repeat (first | refine bN ?_ _ | refine bD ?_ | refine bA ?_ _)); exact BK567.out) hb); have n2_ := MK (below_step (by repeat (first | (with_reducible first | exact HB.out | apply lA | apply lN | apply lD | refine lS ?_ GE566.out | refine lS ?_ GE567.out) | exact HB.out)) hb); clear BK566; clear BK567; clear HB; have BK566 := n0_; have BK567 := n1_; have HB := n2_; clear n0_ n1_ n2_; (try clear hb); (try clear hb2); (try clear hk); (try clear hi)))
    go_ret
    exact ⟨by first | rfl | (simp [errW_none, errW_some] <;> rfl) | (simp [*, errW_none, errW_some] <;> rfl), by repeat (first | (with_reducible first | exact HB.out | apply lA | apply lN | apply lD | refine lS ?_ GE566.out | refine lS ?_ GE567.out) | exact HB.out)⟩
  ·rw [if_neg c14] at H
   have c14b0 : (a0_1 == a1_1) = false := beq_eq_false_iff_ne.mpr c14
   have c14b1 : (a0_1 != a1_1) = true := bne_iff_ne.mpr c14
   (first | rw [c14b0] | (simp only [i64_w, i32_w]; rw [c14b0]) | rw [c14b1] | skip)
   obtain rfl := Option.some.inj H
   go_wp2
   go_ret
   exact ⟨by first | rfl | (simp [errW_none, errW_some] <;> rfl) | (simp [*, errW_none, errW_some] <;> rfl), by repeat (first | (with_reducible first | exact HB.out | apply lA | apply lN | apply lD | refine lS ?_ GE566.out | refine lS ?_ GE567.out) | exact HB.out)⟩
 ·rw [if_neg c9] at H
  have c9b0 : (a0_0 == a1_0) = false := beq_eq_false_iff_ne.mpr c9
  have c9b1 : (a0_0 != a1_0) = true := bne_iff_ne.mpr c9
  (first | rw [c9b0] | (simp only [i64_w, i32_w]; rw [c9b0]) | rw [c9b1] | skip)
  obtain rfl := Option.some.inj H
  go_wp2
  go_ret
  exact ⟨by first | rfl | (simp [errW_none, errW_some] <;> rfl) | (simp [*, errW_none, errW_some] <;> rfl), by repeat (first | (with_reducible first | exact HB.out | apply lA | apply lN | apply lD | refine lS ?_ GE566.out | refine lS ?_ GE567.out) | exact HB.out)⟩

/-! ### laws_eqTrueS: function 51 -/
def laws_eqTrueS.l0 : Nat → List (S86) → List (S86) → Int → Option (Bool)
 | 0, _, _, _ => none
 | k + 1, x0, x1, x5 => if x5 < (x0.length : Int) then (if 0 ≤ x5 then (if x5 < (x1.length : Int) then ((laws_eqTrue.f ((rd_T86 x0 x5).f0) ((rd_T86 x0 x5).f1) ((rd_T86 x0 x5).f2.f0) ((rd_T86 x0 x5).f2.f1.f0) ((rd_T86 x0 x5).f2.f1.f1) ((rd_T86 x0 x5).f2.f2) ((rd_T86 x0 x5).f2.f3) ((rd_T86 x0 x5).f2.f4) ((rd_T86 x1 x5).f0) ((rd_T86 x1 x5).f1) ((rd_T86 x1 x5).f2.f0) ((rd_T86 x1 x5).f2.f1.f0) ((rd_T86 x1 x5).f2.f1.f1) ((rd_T86 x1 x5).f2.f2) ((rd_T86 x1 x5).f2.f3) ((rd_T86 x1 x5).f2.f4)).bind fun t571 => (if t571 = true then (laws_eqTrueS.l0 k x0 x1 (wrap64 (x5 + 1))) else (some false))) else (none)) else (none)) else (some true)
def laws_eqTrueS.f (k : Nat) (l0 : List (S86)) (l1 : List (S86)) : Option (Bool) := if (l0.length : Int) = (l1.length : Int) then (laws_eqTrueS.l0 k l0 l1 0) else (some false)
def laws_eqTrueS.T6 : Bool × List (List Nat × List Nat) := (true, [([], []), ([], []), ([0, 1], [0, 1]), ([2], [2]), ([], []), ([], []), ([4, 5], [4, 5]), ([6], [6]), ([3, 7], [3, 7]), ([8], [8])])
def laws_eqTrueS.B6 : List Nat := [0, 0, 3, 7, 0, 0, 48, 112, 255, 511]
theorem laws_eqTrueS.tab6 : rtab .any (opsOf Try.f51 6) = laws_eqTrueS.T6 := by kernel_rfl
theorem laws_eqTrueS.bits6 : waitsOk laws_eqTrueS.T6.2 laws_eqTrueS.B6 = true := by kernel_rfl
set_option maxHeartbeats 8000000 in
set_option maxRecDepth 100000 in
theorem laws_eqTrueS.calls (k : Nat) (A0 : Option Addr) (c0 : Nat) (l0 : List (S86)) (A1 : Option Addr) (c1 : Nat) (l1 : List (S86)) (r : Bool) (w : World) (hr0 : Kd.C k86 w A0 l0.length l0) (hc0 : l0.length ≤ c0) (hr1 : Kd.C k86 w A1 l1.length l1) (hc1 : l1.length ≤ c1) (h : laws_eqTrueS.f k l0 l1 = some r) :
  Calls Try.prog 51 #[.slice A0 l0.length c0, .slice A1 l1.length c1] w fun e w' => e = .returned (.bool r) ∧ Below w.heap.size w w' := by
 have hu86 := Try.underlying86
 have HR0 := MK hr0
 have HC0 := MK hc0
 clear hr0 hc0
 have HR1 := MK hr1
 have HC1 := MK hc1
 clear hr1 hc1
 have HB := MK (Below.refl w.heap.size w)
 have H : (if (l0.length : Int) = (l1.length : Int) then (laws_eqTrueS.l0 k l0 l1 0) else (some false)) = some r := h
 clear h
 by_cases c3 : (l0.length : Int) = (l1.length : Int)
 ·rw [if_pos c3] at H
  have c3b0 : ((l0.length : Int) == (l1.length : Int)) = true := beq_iff_eq.mpr c3
  have c3b1 : ((l0.length : Int) != (l1.length : Int)) = false := bne_eq_false_iff_eq.mpr c3
  have c3b2 : (l0.length == l1.length) = true := by first | simpa using c3 | (simp at c3 ⊢; omega)
  clear c3
  have H' := MK H
  clear H
  go_enter Try.func51, Try.ntmps51
  go_wp2
  go_loopg [5] k (fun kq v5 w' => ∃ (x5_1 : Int), v5 = .int .i64 x5_1 ∧ Aside0 (laws_eqTrueS.l0 kq l0 l1 x5_1 = some r) ∧ Aside0 (kq ≤ k) ∧ Aside0 (Below w.heap.size w w'))
  case atStart => exact ⟨(0), (by first | rfl | (simp; done) | (simp [*]; done)), H', ⟨Nat.le_refl _⟩, ⟨by repeat (first | (with_reducible first | exact HB.out | apply lA | apply lN | apply lD) | exact HB.out)⟩⟩
  case round =>
   clear H'
   (try clear c1); (try clear c3); (try clear c3b0); (try clear c3b1); (try clear c3b2)
   obtain ⟨x5_1, rfl, HA, HK1, HB⟩ := hrel
   cases gk with
   | zero => exact absurd HA.out (by simp [laws_eqTrueS.l0])
   | succ k1 =>
    have H := HA.out
    clear HA
    simp only [laws_eqTrueS.l0] at H
    by_cases c4 : x5_1 < (l0.length : Int)
    ·rw [if_pos c4] at H
     have c4b0 : decide (x5_1 < (l0.length : Int)) = true := decide_eq_true c4
     clear c4
     by_cases c5 : 0 ≤ x5_1
     ·rw [if_pos c5] at H
      have c5b0 : decide (0 ≤ x5_1) = true := decide_eq_true c5
      clear c5
      by_cases c6 : x5_1 < (l1.length : Int)
      ·rw [if_pos c6] at H
       have c6b0 : decide (x5_1 < (l1.length : Int)) = true := decide_eq_true c6
       clear c6
       replace H := Option.bind_eq_some_iff.mp H
       obtain ⟨t571, A70, H⟩ := H
       replace H : (if t571 = true then (laws_eqTrueS.l0 k1 l0 l1 (wrap64 (x5_1 + 1))) else (some false)) = some r := H
       have A7 := MK A70
       clear A70
       by_cases c8 : t571 = true
       ·subst c8
        have H1 : (laws_eqTrueS.l0 k1 l0 l1 (wrap64 (x5_1 + 1))) = some r := by rw [if_pos rfl] at H; exact H
        clear H
        have H := H1
        clear H1
        have H' := MK H
        clear H
        try go_wp2
        have n0_ := MK (lD HB.out)
        clear HB
        have HB := n0_
        clear n0_
        have p569 : 0 ≤ (x5_1 : Int) := of_decide_eq_true (by first | (with_reducible assumption) | assumption)
        have q569 : x5_1 < (l0.length : Int) := of_decide_eq_true (by first | (with_reducible assumption) | assumption)
        obtain ⟨ad569, e569, hx569_0, hx569_1, hx569_2, hx569_3, hx569_4, hx569_5, hx569_6, hx569_7⟩ := at_T86 HR0.out x5_1 p569 q569
        have hw569_7 := hx569_7
        have hw569_6 := hx569_6
        have hw569_5 := hx569_5
        have hw569_4 := hx569_4
        have hw569_3 := hx569_3
        have hw569_2 := hx569_2
        have hw569_1 := hx569_1
        have hw569_0 := hx569_0
        cases e569
        replace hx569_0 := (HB.out.cell (World.block_lt_of_cell? w _ hx569_0)).trans hx569_0
        replace hx569_1 := (HB.out.cell (World.block_lt_of_cell? w _ hx569_1)).trans hx569_1
        replace hx569_2 := (HB.out.cell (World.block_lt_of_cell? w _ hx569_2)).trans hx569_2
        replace hx569_3 := (HB.out.cell (World.block_lt_of_cell? w _ hx569_3)).trans hx569_3
        replace hx569_4 := (HB.out.cell (World.block_lt_of_cell? w _ hx569_4)).trans hx569_4
        replace hx569_5 := (HB.out.cell (World.block_lt_of_cell? w _ hx569_5)).trans hx569_5
        replace hx569_6 := (HB.out.cell (World.block_lt_of_cell? w _ hx569_6)).trans hx569_6
        replace hx569_7 := (HB.out.cell (World.block_lt_of_cell? w _ hx569_7)).trans hx569_7
        replace p569 := eq_true p569
        replace q569 := eq_true q569
        have p570 : 0 ≤ (x5_1 : Int) := of_decide_eq_true (by first | (with_reducible assumption) | assumption)
        have q570 : x5_1 < (l1.length : Int) := of_decide_eq_true (by first | (with_reducible assumption) | assumption)
        obtain ⟨ad570, e570, hx570_0, hx570_1, hx570_2, hx570_3, hx570_4, hx570_5, hx570_6, hx570_7⟩ := at_T86 HR1.out x5_1 p570 q570
        have hw570_7 := hx570_7
        have hw570_6 := hx570_6
        have hw570_5 := hx570_5
        have hw570_4 := hx570_4
        have hw570_3 := hx570_3
        have hw570_2 := hx570_2
        have hw570_1 := hx570_1
        have hw570_0 := hx570_0
        cases e570
        replace hx570_0 := (HB.out.cell (World.block_lt_of_cell? w _ hx570_0)).trans hx570_0
        replace hx570_1 := (HB.out.cell (World.block_lt_of_cell? w _ hx570_1)).trans hx570_1
        replace hx570_2 := (HB.out.cell (World.block_lt_of_cell? w _ hx570_2)).trans hx570_2
        replace hx570_3 := (HB.out.cell (World.block_lt_of_cell? w _ hx570_3)).trans hx570_3
        replace hx570_4 := (HB.out.cell (World.block_lt_of_cell? w _ hx570_4)).trans hx570_4
        replace hx570_5 := (HB.out.cell (World.block_lt_of_cell? w _ hx570_5)).trans hx570_5
        replace hx570_6 := (HB.out.cell (World.block_lt_of_cell? w _ hx570_6)).trans hx570_6
        replace hx570_7 := (HB.out.cell (World.block_lt_of_cell? w _ hx570_7)).trans hx570_7
        replace p570 := eq_true p570
        replace q570 := eq_true q570
        refine start_ (n := 10) (S := fun w' => w'.cell? (ad569.add ((x5_1).toNat * 8)) = some (.int .i64 ((rd_T86 l0 x5_1).f0)) ∧ w'.cell? ⟨(ad569.add ((x5_1).toNat * 8)).block, (ad569.add ((x5_1).toNat * 8)).off + 1, none⟩ = some (.int .i64 ((rd_T86 l0 x5_1).f1)) ∧ w'.cell? ⟨(ad569.add ((x5_1).toNat * 8)).block, (ad569.add ((x5_1).toNat * 8)).off + 2, none⟩ = some (.bool ((rd_T86 l0 x5_1).f2.f0)) ∧ w'.cell? ⟨(ad569.add ((x5_1).toNat * 8)).block, (ad569.add ((x5_1).toNat * 8)).off + 3, none⟩ = some (.int .i64 ((rd_T86 l0 x5_1).f2.f1.f0)) ∧ w'.cell? ⟨(ad569.add ((x5_1).toNat * 8)).block, (ad569.add ((x5_1).toNat * 8)).off + 4, none⟩ = some (.int .i64 ((rd_T86 l0 x5_1).f2.f1.f1)) ∧ w'.cell? ⟨(ad569.add ((x5_1).toNat * 8)).block, (ad569.add ((x5_1).toNat * 8)).off + 5, none⟩ = some (.int .i64 ((rd_T86 l0 x5_1).f2.f2)) ∧ w'.cell? ⟨(ad569.add ((x5_1).toNat * 8)).block, (ad569.add ((x5_1).toNat * 8)).off + 6, none⟩ = some (.bool ((rd_T86 l0 x5_1).f2.f3)) ∧ w'.cell? ⟨(ad569.add ((x5_1).toNat * 8)).block, (ad569.add ((x5_1).toNat * 8)).off + 7, none⟩ = some (.bool ((rd_T86 l0 x5_1).f2.f4)) ∧ w'.cell? (ad570.add ((x5_1).toNat * 8)) = some (.int .i64 ((rd_T86 l1 x5_1).f0)) ∧ w'.cell? ⟨(ad570.add ((x5_1).toNat * 8)).block, (ad570.add ((x5_1).toNat * 8)).off + 1, none⟩ = some (.int .i64 ((rd_T86 l1 x5_1).f1)) ∧ w'.cell? ⟨(ad570.add ((x5_1).toNat * 8)).block, (ad570.add ((x5_1).toNat * 8)).off + 2, none⟩ = some (.bool ((rd_T86 l1 x5_1).f2.f0)) ∧ w'.cell? ⟨(ad570.add ((x5_1).toNat * 8)).block, (ad570.add ((x5_1).toNat * 8)).off + 3, none⟩ = some (.int .i64 ((rd_T86 l1 x5_1).f2.f1.f0)) ∧ w'.cell? ⟨(ad570.add ((x5_1).toNat * 8)).block, (ad570.add ((x5_1).toNat * 8)).off + 4, none⟩ = some (.int .i64 ((rd_T86 l1 x5_1).f2.f1.f1)) ∧ w'.cell? ⟨(ad570.add ((x5_1).toNat * 8)).block, (ad570.add ((x5_1).toNat * 8)).off + 5, none⟩ = some (.int .i64 ((rd_T86 l1 x5_1).f2.f2)) ∧ w'.cell? ⟨(ad570.add ((x5_1).toNat * 8)).block, (ad570.add ((x5_1).toNat * 8)).off + 6, none⟩ = some (.bool ((rd_T86 l1 x5_1).f2.f3)) ∧ w'.cell? ⟨(ad570.add ((x5_1).toNat * 8)).block, (ad570.add ((x5_1).toNat * 8)).off + 7, none⟩ = some (.bool ((rd_T86 l1 x5_1).f2.f4))) (ds := []) #[false, false, false, false, false, false, false, false, false, false] (by kernel_rfl) rfl rfl ⟨((HB.out.cell (World.block_lt_of_cell? w _ hw569_0)).trans hw569_0), ((HB.out.cell (World.block_lt_of_cell? w _ hw569_1)).trans hw569_1), ((HB.out.cell (World.block_lt_of_cell? w _ hw569_2)).trans hw569_2), ((HB.out.cell (World.block_lt_of_cell? w _ hw569_3)).trans hw569_3), ((HB.out.cell (World.block_lt_of_cell? w _ hw569_4)).trans hw569_4), ((HB.out.cell (World.block_lt_of_cell? w _ hw569_5)).trans hw569_5), ((HB.out.cell (World.block_lt_of_cell? w _ hw569_6)).trans hw569_6), ((HB.out.cell (World.block_lt_of_cell? w _ hw569_7)).trans hw569_7), ((HB.out.cell (World.block_lt_of_cell? w _ hw570_0)).trans hw570_0), ((HB.out.cell (World.block_lt_of_cell? w _ hw570_1)).trans hw570_1), ((HB.out.cell (World.block_lt_of_cell? w _ hw570_2)).trans hw570_2), ((HB.out.cell (World.block_lt_of_cell? w _ hw570_3)).trans hw570_3), ((HB.out.cell (World.block_lt_of_cell? w _ hw570_4)).trans hw570_4), ((HB.out.cell (World.block_lt_of_cell? w _ hw570_5)).trans hw570_5), ((HB.out.cell (World.block_lt_of_cell? w _ hw570_6)).trans hw570_6), ((HB.out.cell (World.block_lt_of_cell? w _ hw570_7)).trans hw570_7)⟩ (fun hHeld => ?_); refine with_tabW laws_eqTrueS.tab6 laws_eqTrueS.bits6 (fun HT_ HW_ => ?_)
        generalize wr.drew = w9 at HB hx569_0 hx569_1 hx569_2 hx569_3 hx569_4 hx569_5 hx569_6 hx569_7 hx570_0 hx570_1 hx570_2 hx570_3 hx570_4 hx570_5 hx570_6 hx570_7 hHeld ⊢
        refine pure_ (i := 0) (N := some 17) (v := ?_) (a' := ?_) #[true, false, false, false, false, false, false, false, false, false] rfl rfl (any_of HT_.out (by kernel_rfl)) (fun _ _ _ h => h) (Or.inl ⟨by rfl, ?_⟩) ?_ ?_
        rotate_left
        ·intro w'; go_simp; with_reducible rfl
        rotate_left
        ·simp only [Act.put, List.setIfInBounds_toArray, List.set_cons_zero, List.set_cons_succ, i64_w, i32_w]; rfl
        refine pure_ (i := 1) (N := some 18) (v := ?_) (a' := ?_) #[true, true, false, false, false, false, false, false, false, false] rfl rfl (any_of HT_.out (by kernel_rfl)) (fun _ _ _ h => h) (Or.inl ⟨by rfl, ?_⟩) ?_ ?_
        rotate_left
        ·intro w'; go_simp; with_reducible rfl
        rotate_left
        ·simp only [Act.put, List.setIfInBounds_toArray, List.set_cons_zero, List.set_cons_succ, i64_w, i32_w]; rfl
        refine pure_ (i := 2) (N := some 19) (v := ?_) (a' := ?_) #[true, true, true, false, false, false, false, false, false, false] rfl rfl (any_of HT_.out (by kernel_rfl)) (fun _ _ _ h => h) (Or.inl ⟨by rfl, ?_⟩) ?_ ?_
        rotate_left
        ·intro w'; go_simp; with_reducible rfl
        rotate_left
        ·simp only [Act.put, List.setIfInBounds_toArray, List.set_cons_zero, List.set_cons_succ, i64_w, i32_w]; rfl
        refine pure_ (i := 4) (N := some 21) (v := ?_) (a' := ?_) #[true, true, true, false, true, false, false, false, false, false] rfl rfl (any_of HT_.out (by kernel_rfl)) (fun _ _ _ h => h) (Or.inl ⟨by rfl, ?_⟩) ?_ ?_
        rotate_left
        ·intro w'; go_simp; with_reducible rfl
        rotate_left
        ·simp only [Act.put, List.setIfInBounds_toArray, List.set_cons_zero, List.set_cons_succ, i64_w, i32_w]; rfl
        refine pure_ (i := 5) (N := some 22) (v := ?_) (a' := ?_) #[true, true, true, false, true, true, false, false, false, false] rfl rfl (any_of HT_.out (by kernel_rfl)) (fun _ _ _ h => h) (Or.inl ⟨by rfl, ?_⟩) ?_ ?_
        rotate_left
        ·intro w'; go_simp; with_reducible rfl
        rotate_left
        ·simp only [Act.put, List.setIfInBounds_toArray, List.set_cons_zero, List.set_cons_succ, i64_w, i32_w]; rfl
        refine pure_ (i := 6) (N := some 23) (v := ?_) (a' := ?_) #[true, true, true, false, true, true, true, false, false, false] rfl rfl (any_of HT_.out (by kernel_rfl)) (fun _ _ _ h => h) (Or.inl ⟨by rfl, ?_⟩) ?_ ?_
        rotate_left
        ·intro w'; go_simp; with_reducible rfl
        rotate_left
        ·simp only [Act.put, List.setIfInBounds_toArray, List.set_cons_zero, List.set_cons_succ, i64_w, i32_w]; rfl
        refine take_ (i := 3) (N := some 20) (v := ?_) (a' := ?_) #[true, true, true, true, true, true, true, false, false, false] rfl rfl (take_ofW HT_.out HW_.out (by kernel_rfl)) (fun _ _ _ h => h) (Or.inl ⟨by rfl, ?_⟩) hHeld ?_ ?_
        rotate_left
        ·rintro w' ⟨s0, s1, s2, s3, s4, s5, s6, s7, s8, s9, s10, s11, s12, s13, s14, s15⟩; go_simp; with_reducible rfl
        rotate_left
        ·simp only [Act.put, List.setIfInBounds_toArray, List.set_cons_zero, List.set_cons_succ, i64_w, i32_w]; rfl
        refine take_ (i := 7) (N := some 24) (v := ?_) (a' := ?_) #[true, true, true, true, true, true, true, true, false, false] rfl rfl (take_ofW HT_.out HW_.out (by kernel_rfl)) (fun _ _ _ h => h) (Or.inl ⟨by rfl, ?_⟩) hHeld ?_ ?_
        rotate_left
        ·rintro w' ⟨s0, s1, s2, s3, s4, s5, s6, s7, s8, s9, s10, s11, s12, s13, s14, s15⟩; go_simp; with_reducible rfl
        rotate_left
        ·simp only [Act.put, List.setIfInBounds_toArray, List.set_cons_zero, List.set_cons_succ, i64_w, i32_w]; rfl
        refine one_ (i := 8) (N := some 25) #[true, true, true, true, true, true, true, true, true, false] rfl rfl (one_of HT_.out (by kernel_rfl)) (by decide) (fun K hK => ?_)
        refine goes_ Try.func72 (by kernel_rfl) rfl #[.agg #[.int .i64 ((rd_T86 l0 x5_1).f0), .int .i64 ((rd_T86 l0 x5_1).f1), .bool ((rd_T86 l0 x5_1).f2.f0), .int .i64 ((rd_T86 l0 x5_1).f2.f1.f0), .int .i64 ((rd_T86 l0 x5_1).f2.f1.f1), .int .i64 ((rd_T86 l0 x5_1).f2.f2), .bool ((rd_T86 l0 x5_1).f2.f3), .bool ((rd_T86 l0 x5_1).f2.f4)], .agg #[.int .i64 ((rd_T86 l1 x5_1).f0), .int .i64 ((rd_T86 l1 x5_1).f1), .bool ((rd_T86 l1 x5_1).f2.f0), .int .i64 ((rd_T86 l1 x5_1).f2.f1.f0), .int .i64 ((rd_T86 l1 x5_1).f2.f1.f1), .int .i64 ((rd_T86 l1 x5_1).f2.f2), .bool ((rd_T86 l1 x5_1).f2.f3), .bool ((rd_T86 l1 x5_1).f2.f4)]] (by rfl) rfl rfl (by (try simp only [List.map_toArray, List.map_cons, List.map_nil]); first | done | rfl | (simp only [List.length_drop, List.length_take]; rfl)) ?_
        with_reducible refine (laws_eqTrue.calls ((rd_T86 l0 x5_1).f0) ((rd_T86 l0 x5_1).f1) ((rd_T86 l0 x5_1).f2.f0) ((rd_T86 l0 x5_1).f2.f1.f0) ((rd_T86 l0 x5_1).f2.f1.f1) ((rd_T86 l0 x5_1).f2.f2) ((rd_T86 l0 x5_1).f2.f3) ((rd_T86 l0 x5_1).f2.f4) ((rd_T86 l1 x5_1).f0) ((rd_T86 l1 x5_1).f1) ((rd_T86 l1 x5_1).f2.f0) ((rd_T86 l1 x5_1).f2.f1.f0) ((rd_T86 l1 x5_1).f2.f1.f1) ((rd_T86 l1 x5_1).f2.f2) ((rd_T86 l1 x5_1).f2.f3) ((rd_T86 l1 x5_1).f2.f4) true _ A7.out).mono ?_
        rintro e w10 ⟨rfl, hb⟩
        refine ⟨_, rfl, ?_⟩
        have n0_ := MK (below_step (by repeat (first | (with_reducible first | exact HB.out | apply lA | apply lN | apply lD) | exact HB.out)) hb)
        clear HB
        have HB := n0_
        clear n0_
        (try clear hb)
        (try clear hb2)
        (try clear hk)
        (try clear hi)
        refine hK.out _ _ ⟨((HB.out.cell (World.block_lt_of_cell? w _ hw569_0)).trans hw569_0), ((HB.out.cell (World.block_lt_of_cell? w _ hw569_1)).trans hw569_1), ((HB.out.cell (World.block_lt_of_cell? w _ hw569_2)).trans hw569_2), ((HB.out.cell (World.block_lt_of_cell? w _ hw569_3)).trans hw569_3), ((HB.out.cell (World.block_lt_of_cell? w _ hw569_4)).trans hw569_4), ((HB.out.cell (World.block_lt_of_cell? w _ hw569_5)).trans hw569_5), ((HB.out.cell (World.block_lt_of_cell? w _ hw569_6)).trans hw569_6), ((HB.out.cell (World.block_lt_of_cell? w _ hw569_7)).trans hw569_7), ((HB.out.cell (World.block_lt_of_cell? w _ hw570_0)).trans hw570_0), ((HB.out.cell (World.block_lt_of_cell? w _ hw570_1)).trans hw570_1), ((HB.out.cell (World.block_lt_of_cell? w _ hw570_2)).trans hw570_2), ((HB.out.cell (World.block_lt_of_cell? w _ hw570_3)).trans hw570_3), ((HB.out.cell (World.block_lt_of_cell? w _ hw570_4)).trans hw570_4), ((HB.out.cell (World.block_lt_of_cell? w _ hw570_5)).trans hw570_5), ((HB.out.cell (World.block_lt_of_cell? w _ hw570_6)).trans hw570_6), ((HB.out.cell (World.block_lt_of_cell? w _ hw570_7)).trans hw570_7)⟩ (fun hHeld => ?_)
        clear hK K
        refine norm_ (a' := ?_) ?_ ?_
        rotate_left
        ·show Act.put _ (some 25) _ = _; simp only [Act.put, List.setIfInBounds_toArray, List.set_cons_zero, List.set_cons_succ, i64_w, i32_w]; rfl
        refine pure_ (i := 9) (N := some 26) (v := ?_) (a' := ?_) #[true, true, true, true, true, true, true, true, true, true] rfl rfl (any_of HT_.out (by kernel_rfl)) (fun _ _ _ h => h) (Or.inl ⟨by rfl, ?_⟩) ?_ ?_
        rotate_left
        ·intro w'; go_simp; with_reducible rfl
        rotate_left
        ·simp only [Act.put, List.setIfInBounds_toArray, List.set_cons_zero, List.set_cons_succ, i64_w, i32_w]; rfl
        refine done_ (done_of HT_.out (by kernel_rfl)) ?_
        try go_wp2
        go_roundg k1
        case measure => have := HK1.out; omega
        case rel => exact ⟨(wrap64 (x5_1 + 1)), (by first | rfl | (simp; done) | (simp [*]; done)), H', ⟨by have := HK1.out; omega⟩, ⟨by repeat (first | (with_reducible first | exact HB.out | apply lA | apply lN | apply lD) | exact HB.out)⟩⟩
       ·replace c8 := Bool.eq_false_iff.mpr c8
        subst c8
        have H1 : (some false) = some r := by rw [if_neg (show ¬ (false = true) by decide)] at H; exact H
        clear H
        have H := H1
        clear H1
        obtain rfl := Option.some.inj H
        try go_wp2
        have n0_ := MK (lD HB.out)
        clear HB
        have HB := n0_
        clear n0_
        have p569 : 0 ≤ (x5_1 : Int) := of_decide_eq_true (by first | (with_reducible assumption) | assumption)
        have q569 : x5_1 < (l0.length : Int) := of_decide_eq_true (by first | (with_reducible assumption) | assumption)
        obtain ⟨ad569, e569, hx569_0, hx569_1, hx569_2, hx569_3, hx569_4, hx569_5, hx569_6, hx569_7⟩ := at_T86 HR0.out x5_1 p569 q569
        have hw569_7 := hx569_7
        have hw569_6 := hx569_6
        have hw569_5 := hx569_5
        have hw569_4 := hx569_4
        have hw569_3 := hx569_3
        have hw569_2 := hx569_2
        have hw569_1 := hx569_1
        have hw569_0 := hx569_0
        cases e569
        replace hx569_0 := (HB.out.cell (World.block_lt_of_cell? w _ hx569_0)).trans hx569_0
        replace hx569_1 := (HB.out.cell (World.block_lt_of_cell? w _ hx569_1)).trans hx569_1
        replace hx569_2 := (HB.out.cell (World.block_lt_of_cell? w _ hx569_2)).trans hx569_2
        replace hx569_3 := (HB.out.cell (World.block_lt_of_cell? w _ hx569_3)).trans hx569_3
        replace hx569_4 := (HB.out.cell (World.block_lt_of_cell? w _ hx569_4)).trans hx569_4
        replace hx569_5 := (HB.out.cell (World.block_lt_of_cell? w _ hx569_5)).trans hx569_5
        replace hx569_6 := (HB.out.cell (World.block_lt_of_cell? w _ hx569_6)).trans hx569_6
        replace hx569_7 := (HB.out.cell (World.block_lt_of_cell? w _ hx569_7)).trans hx569_7
        replace p569 := eq_true p569
        replace q569 := eq_true q569
        have p570 : 0 ≤ (x5_1 : Int) := of_decide_eq_true (by first | (with_reducible assumption) | assumption)
        have q570 : x5_1 < (l1.length : Int) := of_decide_eq_true (by first | (with_reducible assumption) | assumption)
        obtain ⟨ad570, e570, hx570_0, hx570_1, hx570_2, hx570_3, hx570_4, hx570_5, hx570_6, hx570_7⟩ := at_T86 HR1.out x5_1 p570 q570
        have hw570_7 := hx570_7
        have hw570_6 := hx570_6
        have hw570_5 := hx570_5
        have hw570_4 := hx570_4
        have hw570_3 := hx570_3
        have hw570_2 := hx570_2
        have hw570_1 := hx570_1
        have hw570_0 := hx570_0
        cases e570
        replace hx570_0 := (HB.out.cell (World.block_lt_of_cell? w _ hx570_0)).trans hx570_0
        replace hx570_1 := (HB.out.cell (World.block_lt_of_cell? w _ hx570_1)).trans hx570_1
        replace hx570_2 := (HB.out.cell (World.block_lt_of_cell? w _ hx570_2)).trans hx570_2
        replace hx570_3 := (HB.out.cell (World.block_lt_of_cell? w _ hx570_3)).trans hx570_3
        replace hx570_4 := (HB.out.cell (World.block_lt_of_cell? w _ hx570_4)).trans hx570_4
        replace hx570_5 := (HB.out.cell (World.block_lt_of_cell? w _ hx570_5)).trans hx570_5
        replace hx570_6 := (HB.out.cell (World.block_lt_of_cell? w _ hx570_6)).trans hx570_6
        replace hx570_7 := (HB.out.cell (World.block_lt_of_cell? w _ hx570_7)).trans hx570_7
        replace p570 := eq_true p570
        replace q570 := eq_true q570
        refine start_ (n := 10) (S := fun w' => w'.cell? (ad569.add ((x5_1).toNat * 8)) = some (.int .i64 ((rd_T86 l0 x5_1).f0)) ∧ w'.cell? ⟨(ad569.add ((x5_1).toNat * 8)).block, (ad569.add ((x5_1).toNat * 8)).off + 1, none⟩ = some (.int .i64 ((rd_T86 l0 x5_1).f1)) ∧ w'.cell? ⟨(ad569.add ((x5_1).toNat * 8)).block, (ad569.add ((x5_1).toNat * 8)).off + 2, none⟩ = some (.bool ((rd_T86 l0 x5_1).f2.f0)) ∧ w'.cell? ⟨(ad569.add ((x5_1).toNat * 8)).block, (ad569.add ((x5_1).toNat * 8)).off + 3, none⟩ = some (.int .i64 ((rd_T86 l0 x5_1).f2.f1.f0)) ∧ w'.cell? ⟨(ad569.add ((x5_1).toNat * 8)).block, (ad569.add ((x5_1).toNat * 8)).off + 4, none⟩ = some (.int .i64 ((rd_T86 l0 x5_1).f2.f1.f1)) ∧ w'.cell? ⟨(ad569.add ((x5_1).toNat * 8)).block, (ad569.add ((x5_1).toNat * 8)).off + 5, none⟩ = some (.int .i64 ((rd_T86 l0 x5_1).f2.f2)) ∧ w'.cell? ⟨(ad569.add ((x5_1).toNat * 8)).block, (ad569.add ((x5_1).toNat * 8)).off + 6, none⟩ = some (.bool ((rd_T86 l0 x5_1).f2.f3)) ∧ w'.cell? ⟨(ad569.add ((x5_1).toNat * 8)).block, (ad569.add ((x5_1).toNat * 8)).off + 7, none⟩ = some (.bool ((rd_T86 l0 x5_1).f2.f4)) ∧ w'.cell? (ad570.add ((x5_1).toNat * 8)) = some (.int .i64 ((rd_T86 l1 x5_1).f0)) ∧ w'.cell? ⟨(ad570.add ((x5_1).toNat * 8)).block, (ad570.add ((x5_1).toNat * 8)).off + 1, none⟩ = some (.int .i64 ((rd_T86 l1 x5_1).f1)) ∧ w'.cell? ⟨(ad570.add ((x5_1).toNat * 8)).block, (ad570.add ((x5_1).toNat * 8)).off + 2, none⟩ = some (.bool ((rd_T86 l1 x5_1).f2.f0)) ∧ w'.cell? ⟨(ad570.add ((x5_1).toNat * 8)).block, (ad570.add ((x5_1).toNat * 8)).off + 3, none⟩ = some (.int .i64 ((rd_T86 l1 x5_1).f2.f1.f0)) ∧ w'.cell? ⟨(ad570.add ((x5_1).toNat * 8)).block, (ad570.add ((x5_1).toNat * 8)).off + 4, none⟩ = some (.int .i64 ((rd_T86 l1 x5_1).f2.f1.f1)) ∧ w'.cell? ⟨(ad570.add ((x5_1).toNat * 8)).block, (ad570.add ((x5_1).toNat * 8)).off + 5, none⟩ = some (.int .i64 ((rd_T86 l1 x5_1).f2.f2)) ∧ w'.cell? ⟨(ad570.add ((x5_1).toNat * 8)).block, (ad570.add ((x5_1).toNat * 8)).off + 6, none⟩ = some (.bool ((rd_T86 l1 x5_1).f2.f3)) ∧ w'.cell? ⟨(ad570.add ((x5_1).toNat * 8)).block, (ad570.add ((x5_1).toNat * 8)).off + 7, none⟩ = some (.bool ((rd_T86 l1 x5_1).f2.f4))) (ds := []) #[false, false, false, false, false, false, false, false, false, false] (by kernel_rfl) rfl rfl ⟨((HB.out.cell (World.block_lt_of_cell? w _ hw569_0)).trans hw569_0), ((HB.out.cell (World.block_lt_of_cell? w _ hw569_1)).trans hw569_1), ((HB.out.cell (World.block_lt_of_cell? w _ hw569_2)).trans hw569_2), ((HB.out.cell (World.block_lt_of_cell? w _ hw569_3)).trans hw569_3), ((HB.out.cell (World.block_lt_of_cell? w _ hw569_4)).trans hw569_4), ((HB.out.cell (World.block_lt_of_cell? w _ hw569_5)).trans hw569_5), ((HB.out.cell (World.block_lt_of_cell? w _ hw569_6)).trans hw569_6), ((HB.out.cell (World.block_lt_of_cell? w _ hw569_7)).trans hw569_7), ((HB.out.cell (World.block_lt_of_cell? w _ hw570_0)).trans hw570_0), ((HB.out.cell (World.block_lt_of_cell? w _ hw570_1)).trans hw570_1), ((HB.out.cell (World.block_lt_of_cell? w _ hw570_2)).trans hw570_2), ((HB.out.cell (World.block_lt_of_cell? w _ hw570_3)).trans hw570_3), ((HB.out.cell (World.block_lt_of_cell? w _ hw570_4)).trans hw570_4), ((HB.out.cell (World.block_lt_of_cell? w _ hw570_5)).trans hw570_5), ((HB.out.cell (World.block_lt_of_cell? w _ hw570_6)).trans hw570_6), ((HB.out.cell (World.block_lt_of_cell? w _ hw570_7)).trans hw570_7)⟩ (fun hHeld => ?_); refine with_tabW laws_eqTrueS.tab6 laws_eqTrueS.bits6 (fun HT_ HW_ => ?_)
        generalize wr.drew = w11 at HB hx569_0 hx569_1 hx569_2 hx569_3 hx569_4 hx569_5 hx569_6 hx569_7 hx570_0 hx570_1 hx570_2 hx570_3 hx570_4 hx570_5 hx570_6 hx570_7 hHeld ⊢
        refine pure_ (i := 0) (N := some 17) (v := ?_) (a' := ?_) #[true, false, false, false, false, false, false, false, false, false] rfl rfl (any_of HT_.out (by kernel_rfl)) (fun _ _ _ h => h) (Or.inl ⟨by rfl, ?_⟩) ?_ ?_
        rotate_left
        ·intro w'; go_simp; with_reducible rfl
        rotate_left
        ·simp only [Act.put, List.setIfInBounds_toArray, List.set_cons_zero, List.set_cons_succ, i64_w, i32_w]; rfl
        refine pure_ (i := 1) (N := some 18) (v := ?_) (a' := ?_) #[true, true, false, false, false, false, false, false, false, false] rfl rfl (any_of HT_.out (by kernel_rfl)) (fun _ _ _ h => h) (Or.inl ⟨by rfl, ?_⟩) ?_ ?_
        rotate_left
        ·intro w'; go_simp; with_reducible rfl
        rotate_left
        ·simp only [Act.put, List.setIfInBounds_toArray, List.set_cons_zero, List.set_cons_succ, i64_w, i32_w]; rfl
        refine pure_ (i := 2) (N := some 19) (v := ?_) (a' := ?_) #[true, true, true, false, false, false, false, false, false, false] rfl rfl (any_of HT_.out (by kernel_rfl)) (fun _ _ _ h => h) (Or.inl ⟨by rfl, ?_⟩) ?_ ?_
        rotate_left
        ·intro w'; go_simp; with_reducible rfl
        rotate_left
        ·simp only [Act.put, List.setIfInBounds_toArray, List.set_cons_zero, List.set_cons_succ, i64_w, i32_w]; rfl
        refine pure_ (i := 4) (N := some 21) (v := ?_) (a' := ?_) #[true, true, true, false, true, false, false, false, false, false] rfl rfl (any_of HT_.out (by kernel_rfl)) (fun _ _ _ h => h) (Or.inl ⟨by rfl, ?_⟩) ?_ ?_
        rotate_left
        ·intro w'; go_simp; with_reducible rfl
        rotate_left
        ·simp only [Act.put, List.setIfInBounds_toArray, List.set_cons_zero, List.set_cons_succ, i64_w, i32_w]; rfl
        refine pure_ (i := 5) (N := some 22) (v := ?_) (a' := ?_) #[true, true, true, false, true, true, false, false, false, false] rfl rfl (any_of HT_.out (by kernel_rfl)) (fun _ _ _ h => h) (Or.inl ⟨by rfl, ?_⟩) ?_ ?_
        rotate_left
        ·intro w'; go_simp; with_reducible rfl
        rotate_left
        ·simp only [Act.put, List.setIfInBounds_toArray, List.set_cons_zero, List.set_cons_succ, i64_w, i32_w]; rfl
        refine pure_ (i := 6) (N := some 23) (v := ?_) (a' := ?_) #[true, true, true, false, true, true, true, false, false, false] rfl rfl (any_of HT_.out (by kernel_rfl)) (fun _ _ _ h => h) (Or.inl ⟨by rfl, ?_⟩) ?_ ?_
        rotate_left
        ·intro w'; go_simp; with_reducible rfl
        rotate_left
        ·simp only [Act.put, List.setIfInBounds_toArray, List.set_cons_zero, List.set_cons_succ, i64_w, i32_w]; rfl
        refine take_ (i := 3) (N := some 20) (v := ?_) (a' := ?_) #[true, true, true, true, true, true, true, false, false, false] rfl rfl (take_ofW HT_.out HW_.out (by kernel_rfl)) (fun _ _ _ h => h) (Or.inl ⟨by rfl, ?_⟩) hHeld ?_ ?_
        rotate_left
        ·rintro w' ⟨s0, s1, s2, s3, s4, s5, s6, s7, s8, s9, s10, s11, s12, s13, s14, s15⟩; go_simp; with_reducible rfl
        rotate_left
        ·simp only [Act.put, List.setIfInBounds_toArray, List.set_cons_zero, List.set_cons_succ, i64_w, i32_w]; rfl
        refine take_ (i := 7) (N := some 24) (v := ?_) (a' := ?_) #[true, true, true, true, true, true, true, true, false, false] rfl rfl (take_ofW HT_.out HW_.out (by kernel_rfl)) (fun _ _ _ h => h) (Or.inl ⟨by rfl, ?_⟩) hHeld ?_ ?_
        rotate_left
        ·rintro w' ⟨s0, s1, s2, s3, s4, s5, s6, s7, s8, s9, s10, s11, s12, s13, s14, s15⟩; go_simp; with_reducible rfl
        rotate_left
        ·simp only [Act.put, List.setIfInBounds_toArray, List.set_cons_zero, List.set_cons_succ, i64_w, i32_w]; rfl
        refine one_ (i := 8) (N := some 25) #[true, true, true, true, true, true, true, true, true, false] rfl rfl (one_of HT_.out (by kernel_rfl)) (by decide) (fun K hK => ?_)
        refine goes_ Try.func72 (by kernel_rfl) rfl #[.agg #[.int .i64 ((rd_T86 l0 x5_1).f0), .int .i64 ((rd_T86 l0 x5_1).f1), .bool ((rd_T86 l0 x5_1).f2.f0), .int .i64 ((rd_T86 l0 x5_1).f2.f1.f0), .int .i64 ((rd_T86 l0 x5_1).f2.f1.f1), .int .i64 ((rd_T86 l0 x5_1).f2.f2), .bool ((rd_T86 l0 x5_1).f2.f3), .bool ((rd_T86 l0 x5_1).f2.f4)], .agg #[.int .i64 ((rd_T86 l1 x5_1).f0), .int .i64 ((rd_T86 l1 x5_1).f1), .bool ((rd_T86 l1 x5_1).f2.f0), .int .i64 ((rd_T86 l1 x5_1).f2.f1.f0), .int .i64 ((rd_T86 l1 x5_1).f2.f1.f1), .int .i64 ((rd_T86 l1 x5_1).f2.f2), .bool ((rd_T86 l1 x5_1).f2.f3), .bool ((rd_T86 l1 x5_1).f2.f4)]] (by rfl) rfl rfl (by (try simp only [List.map_toArray, List.map_cons, List.map_nil]); first | done | rfl | (simp only [List.length_drop, List.length_take]; rfl)) ?_
        with_reducible refine (laws_eqTrue.calls ((rd_T86 l0 x5_1).f0) ((rd_T86 l0 x5_1).f1) ((rd_T86 l0 x5_1).f2.f0) ((rd_T86 l0 x5_1).f2.f1.f0) ((rd_T86 l0 x5_1).f2.f1.f1) ((rd_T86 l0 x5_1).f2.f2) ((rd_T86 l0 x5_1).f2.f3) ((rd_T86 l0 x5_1).f2.f4) ((rd_T86 l1 x5_1).f0) ((rd_T86 l1 x5_1).f1) ((rd_T86 l1 x5_1).f2.f0) ((rd_T86 l1 x5_1).f2.f1.f0) ((rd_T86 l1 x5_1).f2.f1.f1) ((rd_T86 l1 x5_1).f2.f2) ((rd_T86 l1 x5_1).f2.f3) ((rd_T86 l1 x5_1).f2.f4) false _ A7.out).mono ?_
        rintro e w12 ⟨rfl, hb⟩
        refine ⟨_, rfl, ?_⟩
        have n0_ := MK (below_step (by repeat (first | (with_reducible first | exact HB.out | apply lA | apply lN | apply lD) | exact HB.out)) hb)
        clear HB
        have HB := n0_
        clear n0_
        (try clear hb)
        (try clear hb2)
        (try clear hk)
        (try clear hi)
        refine hK.out _ _ ⟨((HB.out.cell (World.block_lt_of_cell? w _ hw569_0)).trans hw569_0), ((HB.out.cell (World.block_lt_of_cell? w _ hw569_1)).trans hw569_1), ((HB.out.cell (World.block_lt_of_cell? w _ hw569_2)).trans hw569_2), ((HB.out.cell (World.block_lt_of_cell? w _ hw569_3)).trans hw569_3), ((HB.out.cell (World.block_lt_of_cell? w _ hw569_4)).trans hw569_4), ((HB.out.cell (World.block_lt_of_cell? w _ hw569_5)).trans hw569_5), ((HB.out.cell (World.block_lt_of_cell? w _ hw569_6)).trans hw569_6), ((HB.out.cell (World.block_lt_of_cell? w _ hw569_7)).trans hw569_7), ((HB.out.cell (World.block_lt_of_cell? w _ hw570_0)).trans hw570_0), ((HB.out.cell (World.block_lt_of_cell? w _ hw570_1)).trans hw570_1), ((HB.out.cell (World.block_lt_of_cell? w _ hw570_2)).trans hw570_2), ((HB.out.cell (World.block_lt_of_cell? w _ hw570_3)).trans hw570_3), ((HB.out.cell (World.block_lt_of_cell? w _ hw570_4)).trans hw570_4), ((HB.out.cell (World.block_lt_of_cell? w _ hw570_5)).trans hw570_5), ((HB.out.cell (World.block_lt_of_cell? w _ hw570_6)).trans hw570_6), ((HB.out.cell (World.block_lt_of_cell? w _ hw570_7)).trans hw570_7)⟩ (fun hHeld => ?_)
        clear hK K
        refine norm_ (a' := ?_) ?_ ?_
        rotate_left
        ·show Act.put _ (some 25) _ = _; simp only [Act.put, List.setIfInBounds_toArray, List.set_cons_zero, List.set_cons_succ, i64_w, i32_w]; rfl
        refine pure_ (i := 9) (N := some 26) (v := ?_) (a' := ?_) #[true, true, true, true, true, true, true, true, true, true] rfl rfl (any_of HT_.out (by kernel_rfl)) (fun _ _ _ h => h) (Or.inl ⟨by rfl, ?_⟩) ?_ ?_
        rotate_left
        ·intro w'; go_simp; with_reducible rfl
        rotate_left
        ·simp only [Act.put, List.setIfInBounds_toArray, List.set_cons_zero, List.set_cons_succ, i64_w, i32_w]; rfl
        refine done_ (done_of HT_.out (by kernel_rfl)) ?_
        try go_wp2
        go_ret
        exact ⟨by first | rfl | (simp [errW_none, errW_some] <;> rfl) | (simp [*, errW_none, errW_some] <;> rfl), by repeat (first | (with_reducible first | exact HB.out | apply lA | apply lN | apply lD) | exact HB.out)⟩
      ·rw [if_neg c6] at H
       exact absurd H (by simp)
     ·rw [if_neg c5] at H
      exact absurd H (by simp)
    ·rw [if_neg c4] at H
     have c4b0 : decide (x5_1 < (l0.length : Int)) = false := decide_eq_false c4
     clear c4
     obtain rfl := Option.some.inj H
     go_wp2
     go_ret
     exact ⟨by first | rfl | (simp [errW_none, errW_some] <;> rfl) | (simp [*, errW_none, errW_some] <;> rfl), by repeat (first | (with_reducible first | exact HB.out | apply lA | apply lN | apply lD) | exact HB.out)⟩
 ·rw [if_neg c3] at H
  have c3b0 : ((l0.length : Int) == (l1.length : Int)) = false := beq_eq_false_iff_ne.mpr c3
  have c3b1 : ((l0.length : Int) != (l1.length : Int)) = true := bne_iff_ne.mpr c3
  have c3b2 : (l0.length == l1.length) = false := by first | simpa using c3 | (simp at c3 ⊢; omega)
  obtain rfl := Option.some.inj H
  go_enter Try.func51, Try.ntmps51
  go_wp2
  go_ret
  exact ⟨by first | rfl | (simp [errW_none, errW_some] <;> rfl) | (simp [*, errW_none, errW_some] <;> rfl), by repeat (first | (with_reducible first | exact HB.out | apply lA | apply lN | apply lD) | exact HB.out)⟩

end Go.Proofs.Ytnikfadkmhcalaa.Q
