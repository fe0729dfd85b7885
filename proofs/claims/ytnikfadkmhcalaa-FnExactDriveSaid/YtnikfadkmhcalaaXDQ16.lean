/- Walks: a call of each function answers what its Lean function tells; no condition but that it tells something. -/
import Derived.Test.YtnikfadkmhcalaaXDQ0
import Derived.Test.YtnikfadkmhcalaaXDQ2
import Derived.Test.YtnikfadkmhcalaaXDQ4
import Derived.Test.YtnikfadkmhcalaaXDQ6
import Derived.Test.YtnikfadkmhcalaaXDQ10
import Derived.Test.YtnikfadkmhcalaaXDQ12
import Derived.Test.YtnikfadkmhcalaaXDQ14
namespace Go.Proofs.Ytnikfadkmhcalaa.Q
open Go.RowKit Go.Proofs.YtnikfadkmhcalaaW.PrintWords Go.Proofs.YtnikfadkmhcalaaW.PrintLast Go.Proofs.YtnikfadkmhcalaaW.PrintMore
attribute [local go_sem] max2_int min2_int max_two min_two max_three min_three max_four min_four   -- for this text's walks alone
set_option linter.unusedVariables false
set_option linter.unusedSimpArgs false

/-! ### spec_Permitted: function 33 -/
mutual
def spec_Permitted.j0 : Nat → Int → Int → Bool → Int → Int → Int → Int → Int → Option (Int)
 | 0, _, _, _, _, _, _, _, _ => none
 | k + 1, x1, x2, x21, x288000, x288001, x288002, x288003, x288004 => if x21 = true then (some (-1)) else (spec_Permitted.l0 k x1 x2 0 0 x288000 x288001 x288002 x288003 x288004)
def spec_Permitted.l0 : Nat → Int → Int → Int → Int → Int → Int → Int → Int → Int → Option (Int)
 | 0, _, _, _, _, _, _, _, _, _ => none
 | k + 1, x1, x2, x7, x8, x288000, x288001, x288002, x288003, x288004 => if x8 ≤ x2 then ((spec_l1worst.f k x288000 x288001 x288002 x288003 x288004 x8).bind fun t291 => (if t291 ≤ x1 then ((spec_l1gentle.f k x288000 x288001 x288002 x288003 x288004 x8).bind fun t292 => (spec_Permitted.j2 k x1 x2 x7 x8 (decide (t292 ≤ x1)) x288000 x288001 x288002 x288003 x288004)) else (spec_Permitted.j2 k x1 x2 x7 x8 false x288000 x288001 x288002 x288003 x288004))) else (spec_Permitted.j2 k x1 x2 x7 x8 false x288000 x288001 x288002 x288003 x288004)
def spec_Permitted.j2 : Nat → Int → Int → Int → Int → Bool → Int → Int → Int → Int → Int → Option (Int)
 | 0, _, _, _, _, _, _, _, _, _, _ => none
 | k + 1, x1, x2, x7, x8, x38, x288000, x288001, x288002, x288003, x288004 => if x38 = true then (spec_Permitted.l0 k x1 x2 x8 (wrap64 (x8 + 1)) x288000 x288001 x288002 x288003 x288004) else (some x7)
end
def spec_Permitted.f (k : Nat) (a0_0 : Int) (a0_1 : Int) (a0_2 : Int) (a0_3 : Int) (a0_4 : Int) (a1 : Int) (a2 : Int) : Option (Int) := (spec_BrakesOk.f a0_0 a0_1 a0_2 a0_3 a0_4).bind fun t288 => (if t288 = true then ((spec_l1in.f a1 0 100000000).bind fun t289 => (if t289 = true then ((spec_l1speed.f a2).bind fun t290 => (spec_Permitted.j0 k a1 a2 (!t290) a0_0 a0_1 a0_2 a0_3 a0_4)) else (spec_Permitted.j0 k a1 a2 true a0_0 a0_1 a0_2 a0_3 a0_4))) else (spec_Permitted.j0 k a1 a2 true a0_0 a0_1 a0_2 a0_3 a0_4))
set_option maxHeartbeats 8000000 in
set_option maxRecDepth 100000 in
theorem spec_Permitted.calls (k : Nat) (a0_0 : Int) (a0_1 : Int) (a0_2 : Int) (a0_3 : Int) (a0_4 : Int) (a1 : Int) (a2 : Int) (r : Int) (w : World) (h : spec_Permitted.f k a0_0 a0_1 a0_2 a0_3 a0_4 a1 a2 = some r) :
  Calls Try.prog 33 #[.agg #[.int .i64 a0_0, .int .i64 a0_1, .int .i64 a0_2, .int .i64 a0_3, .int .i64 a0_4], .int .i64 a1, .int .i64 a2] w fun e w' => e = .returned (.int .i64 r) ∧ Below w.heap.size w w' := by
 have hu32 := Try.underlying32
 have HB := MK (Below.refl w.heap.size w)
 have H : ((spec_BrakesOk.f a0_0 a0_1 a0_2 a0_3 a0_4).bind fun t288 => (if t288 = true then ((spec_l1in.f a1 0 100000000).bind fun t289 => (if t289 = true then ((spec_l1speed.f a2).bind fun t290 => (spec_Permitted.j0 k a1 a2 (!t290) a0_0 a0_1 a0_2 a0_3 a0_4)) else (spec_Permitted.j0 k a1 a2 true a0_0 a0_1 a0_2 a0_3 a0_4))) else (spec_Permitted.j0 k a1 a2 true a0_0 a0_1 a0_2 a0_3 a0_4))) = some r := h
 clear h
 have HC4 := MK H
 clear H
 go_enter Try.func33, Try.ntmps33
 go_upto_region 1 with (first | ((with_reducible refine gate_dst (N := 3) rfl ?_); refine box_event ?hg (N := 3) ?hd (cs := #[.int .i64 a0_0, .int .i64 a0_1, .int .i64 a0_2, .int .i64 a0_3, .int .i64 a0_4]) (t := 32) ?hr ?_; (case hd => rfl); (case hg => rfl); (case hr => first | (go_simp; done) | (go_simp; rfl)); intro gb287 hg w5 hbox hb; have n0_ := MK (below_step (by repeat (first | (with_reducible first | exact HB.out | apply lA | apply lN | apply lD) | exact HB.out)) hb); have n1_ := MK (hbox); have n2_ := MK ((by rw [hg]; exact (below_size (by repeat (first | (with_reducible first | exact HB.out | apply lA | apply lN | apply lD) | exact HB.out))) : w.heap.size ≤ gb287)); have n3_ := MK ((by rw [hg]; exact (below_size (by repeat (first | (with_reducible first | exact HB.out | apply lA | apply lN | apply lD) | exact HB.out))) : w.heap.size ≤ gb287)); clear HB; have HB := n0_; have BK287 := n1_; have GW287 := n2_; have GE287 := n3_; clear n0_ n1_ n2_ n3_; clear hb hbox hg))
 (try simp only [Act.put, List.setIfInBounds_toArray, List.set_cons_zero, List.set_cons_succ])
 go_cut [21] (fun v21 wc => ∃ (kq : Nat) (x21_3 : Bool), v21 = .bool x21_3 ∧ Aside0 (spec_Permitted.j0 kq a1 a2 x21_3 a0_0 a0_1 a0_2 a0_3 a0_4 = some r) ∧ Aside0 (kq ≤ k) ∧ Aside0 (wc.heap[gb287]? = some (.cells #[.int .i64 a0_0, .int .i64 a0_1, .int .i64 a0_2, .int .i64 a0_3, .int .i64 a0_4] 32 (0, 0))) ∧ Aside0 (Below w.heap.size w wc))
 case first =>
  have H := HC4.out
  clear HC4
  replace H := Option.bind_eq_some_iff.mp H
  obtain ⟨t288, A60, H⟩ := H
  replace H : (if t288 = true then ((spec_l1in.f a1 0 100000000).bind fun t289 => (if t289 = true then ((spec_l1speed.f a2).bind fun t290 => (spec_Permitted.j0 k a1 a2 (!t290) a0_0 a0_1 a0_2 a0_3 a0_4)) else (spec_Permitted.j0 k a1 a2 true a0_0 a0_1 a0_2 a0_3 a0_4))) else (spec_Permitted.j0 k a1 a2 true a0_0 a0_1 a0_2 a0_3 a0_4)) = some r := H
  have A6 := MK A60
  clear A60
  by_cases c7 : t288 = true
  ·subst c7
   have H1 : ((spec_l1in.f a1 0 100000000).bind fun t289 => (if t289 = true then ((spec_l1speed.f a2).bind fun t290 => (spec_Permitted.j0 k a1 a2 (!t290) a0_0 a0_1 a0_2 a0_3 a0_4)) else (spec_Permitted.j0 k a1 a2 true a0_0 a0_1 a0_2 a0_3 a0_4))) = some r := by rw [if_pos rfl] at H; exact H
   clear H
   have H := H1
   clear H1
   replace H := Option.bind_eq_some_iff.mp H
   obtain ⟨t289, A80, H⟩ := H
   replace H : (if t289 = true then ((spec_l1speed.f a2).bind fun t290 => (spec_Permitted.j0 k a1 a2 (!t290) a0_0 a0_1 a0_2 a0_3 a0_4)) else (spec_Permitted.j0 k a1 a2 true a0_0 a0_1 a0_2 a0_3 a0_4)) = some r := H
   have A8 := MK A80
   clear A80
   by_cases c9 : t289 = true
   ·subst c9
    have H1 : ((spec_l1speed.f a2).bind fun t290 => (spec_Permitted.j0 k a1 a2 (!t290) a0_0 a0_1 a0_2 a0_3 a0_4)) = some r := by rw [if_pos rfl] at H; exact H
    clear H
    have H := H1
    clear H1
    replace H := Option.bind_eq_some_iff.mp H
    obtain ⟨t290, A100, H⟩ := H
    replace H : (spec_Permitted.j0 k a1 a2 (!t290) a0_0 a0_1 a0_2 a0_3 a0_4) = some r := H
    have A10 := MK A100
    clear A100
    have H' := MK H
    clear H
    obtain ⟨hcz11_0, hcz11_1, hcz11_2, hcz11_3, hcz11_4⟩ := bc5 BK287.out
    obtain ⟨hfz11_0, hfz11_1, hfz11_2, hfz11_3, hfz11_4⟩ := bf5 BK287.out
    go_wp2_with (first | ((with_reducible refine gate_callee (f := 18) rfl ?_); refine goesL_ (some 10) rfl rfl Try.func18 (by kernel_rfl) rfl #[.agg #[.int .i64 a0_0, .int .i64 a0_1, .int .i64 a0_2, .int .i64 a0_3, .int .i64 a0_4]] rfl (by (try simp only [List.map_toArray, List.map_cons, List.map_nil]); first | done | rfl | (simp only [List.length_drop, List.length_take]; rfl)) ?_; (with_reducible refine (spec_BrakesOk.calls a0_0 a0_1 a0_2 a0_3 a0_4 true _ A6.out).mono ?_); rintro e w12 ⟨rfl, hb⟩; refine ⟨_, rfl, ?_⟩; have n0_ := MK (blk_below (by (with_reducible repeat (first | refine bN ?_ _ | refine bD ?_ | refine bA ?_ _)); exact BK287.out) hb); have n1_ := MK (below_step (by repeat (first | (with_reducible first | exact HB.out | apply lA | apply lN | apply lD | refine lS ?_ GE287.out) | exact HB.out)) hb); clear BK287; clear HB; have BK287 := n0_; have HB := n1_; clear n0_ n1_; (try clear hb); (try clear hb2); (try clear hk); (try clear hi)) | (go_at_call 56; (with_reducible refine (spec_l1in.calls a1 0 100000000 true _ A8.out).mono ?_); rintro e w' ⟨rfl, ⟨nd, rfl⟩⟩) | (go_at_call 59; (with_reducible refine (spec_l1speed.calls a2 t290 _ A10.out).mono ?_); rintro e w' ⟨rfl, ⟨nd, rfl⟩⟩))
    go_meet
    case rel => exact ⟨_, (!t290), (by first | rfl | (simp; done) | (simp [*]; done)), H', ⟨by first | omega | exact Nat.le_refl _⟩, ⟨by (with_reducible repeat (first | refine bN ?_ _ | refine bD ?_ | refine bA ?_ _)); exact BK287.out⟩, ⟨by repeat (first | (with_reducible first | exact HB.out | apply lA | apply lN | apply lD | refine lS ?_ GE287.out) | exact HB.out)⟩⟩
   ·replace c9 := Bool.eq_false_iff.mpr c9
    subst c9
    have H1 : (spec_Permitted.j0 k a1 a2 true a0_0 a0_1 a0_2 a0_3 a0_4) = some r := by rw [if_neg (show ¬ (false = true) by decide)] at H; exact H
    clear H
    have H := H1
    clear H1
    have H' := MK H
    clear H
    obtain ⟨hcz13_0, hcz13_1, hcz13_2, hcz13_3, hcz13_4⟩ := bc5 BK287.out
    obtain ⟨hfz13_0, hfz13_1, hfz13_2, hfz13_3, hfz13_4⟩ := bf5 BK287.out
    go_wp2_with (first | ((with_reducible refine gate_callee (f := 18) rfl ?_); refine goesL_ (some 10) rfl rfl Try.func18 (by kernel_rfl) rfl #[.agg #[.int .i64 a0_0, .int .i64 a0_1, .int .i64 a0_2, .int .i64 a0_3, .int .i64 a0_4]] rfl (by (try simp only [List.map_toArray, List.map_cons, List.map_nil]); first | done | rfl | (simp only [List.length_drop, List.length_take]; rfl)) ?_; (with_reducible refine (spec_BrakesOk.calls a0_0 a0_1 a0_2 a0_3 a0_4 true _ A6.out).mono ?_); rintro e w14 ⟨rfl, hb⟩; refine ⟨_, rfl, ?_⟩; have n0_ := MK (blk_below (by (with_reducible repeat (first | refine bN ?_ _ | refine bD ?_ | refine bA ?_ _)); exact BK287.out) hb); have n1_ := MK (below_step (by repeat (first | (with_reducible first | exact HB.out | apply lA | apply lN | apply lD | refine lS ?_ GE287.out) | exact HB.out)) hb); clear BK287; clear HB; have BK287 := n0_; have HB := n1_; clear n0_ n1_; (try clear hb); (try clear hb2); (try clear hk); (try clear hi)) | (go_at_call 56; (with_reducible refine (spec_l1in.calls a1 0 100000000 false _ A8.out).mono ?_); rintro e w' ⟨rfl, ⟨nd, rfl⟩⟩))
    go_meet
    case rel => exact ⟨_, (true), (by first | rfl | (simp; done) | (simp [*]; done)), H', ⟨by first | omega | exact Nat.le_refl _⟩, ⟨by (with_reducible repeat (first | refine bN ?_ _ | refine bD ?_ | refine bA ?_ _)); exact BK287.out⟩, ⟨by repeat (first | (with_reducible first | exact HB.out | apply lA | apply lN | apply lD | refine lS ?_ GE287.out) | exact HB.out)⟩⟩
  ·replace c7 := Bool.eq_false_iff.mpr c7
   subst c7
   have H1 : (spec_Permitted.j0 k a1 a2 true a0_0 a0_1 a0_2 a0_3 a0_4) = some r := by rw [if_neg (show ¬ (false = true) by decide)] at H; exact H
   clear H
   have H := H1
   clear H1
   have H' := MK H
   clear H
   obtain ⟨hcz15_0, hcz15_1, hcz15_2, hcz15_3, hcz15_4⟩ := bc5 BK287.out
   obtain ⟨hfz15_0, hfz15_1, hfz15_2, hfz15_3, hfz15_4⟩ := bf5 BK287.out
   go_wp2_with (first | ((with_reducible refine gate_callee (f := 18) rfl ?_); refine goesL_ (some 10) rfl rfl Try.func18 (by kernel_rfl) rfl #[.agg #[.int .i64 a0_0, .int .i64 a0_1, .int .i64 a0_2, .int .i64 a0_3, .int .i64 a0_4]] rfl (by (try simp only [List.map_toArray, List.map_cons, List.map_nil]); first | done | rfl | (simp only [List.length_drop, List.length_take]; rfl)) ?_; (with_reducible refine (spec_BrakesOk.calls a0_0 a0_1 a0_2 a0_3 a0_4 false _ A6.out).mono ?_); rintro e w16 ⟨rfl, hb⟩; refine ⟨_, rfl, ?_⟩; have n0_ := MK (blk_below (by (with_reducible repeat (first | refine bN ?_ _ | refine bD ?_ | refine bA ?_ _)); exact BK287.out) hb); have n1_ := MK (below_step (by repeat (first | (with_reducible first | exact HB.out | apply lA | apply lN | apply lD | refine lS ?_ GE287.out) | exact HB.out)) hb); clear BK287; clear HB; have BK287 := n0_; have HB := n1_; clear n0_ n1_; (try clear hb); (try clear hb2); (try clear hk); (try clear hi)))
   go_meet
   case rel => exact ⟨_, (true), (by first | rfl | (simp; done) | (simp [*]; done)), H', ⟨by first | omega | exact Nat.le_refl _⟩, ⟨by (with_reducible repeat (first | refine bN ?_ _ | refine bD ?_ | refine bA ?_ _)); exact BK287.out⟩, ⟨by repeat (first | (with_reducible first | exact HB.out | apply lA | apply lN | apply lD | refine lS ?_ GE287.out) | exact HB.out)⟩⟩
 case rest =>
  clear HC4
  obtain ⟨kq, x21_3, rfl, HA, HJ3, BK287, HB⟩ := hcut
  cases kq with
  | zero => exact absurd HA.out (by simp [spec_Permitted.j0])
  | succ kj3 =>
   have H := HA.out
   clear HA
   simp only [spec_Permitted.j0] at H
   by_cases c17 : x21_3 = true
   ·subst c17
    have H1 : (some (-1)) = some r := by rw [if_pos rfl] at H; exact H
    clear H
    have H := H1
    clear H1
    obtain rfl := Option.some.inj H
    go_wp2
    go_ret
    exact ⟨by first | rfl | (simp [errW_none, errW_some] <;> rfl) | (simp [*, errW_none, errW_some] <;> rfl), by repeat (first | (with_reducible first | exact HB.out | apply lA | apply lN | apply lD | refine lS ?_ GE287.out) | exact HB.out)⟩
   ·replace c17 := Bool.eq_false_iff.mpr c17
    subst c17
    have H1 : (spec_Permitted.l0 kj3 a1 a2 0 0 a0_0 a0_1 a0_2 a0_3 a0_4) = some r := by rw [if_neg (show ¬ (false = true) by decide)] at H; exact H
    clear H
    have H := H1
    clear H1
    have H' := MK H
    clear H
    go_wp2
    go_loopg [7, 8] kj3 (fun kq v7 v8 w' => ∃ (x7_2 : Int) (x8_2 : Int), v7 = .int .i64 x7_2 ∧ v8 = .int .i64 x8_2 ∧ Aside0 (spec_Permitted.l0 kq a1 a2 x7_2 x8_2 a0_0 a0_1 a0_2 a0_3 a0_4 = some r) ∧ Aside0 (kq ≤ kj3) ∧ Aside0 (w'.heap[gb287]? = some (.cells #[.int .i64 a0_0, .int .i64 a0_1, .int .i64 a0_2, .int .i64 a0_3, .int .i64 a0_4] 32 (0, 0))) ∧ Aside0 (Below w.heap.size w w'))
    case atStart => exact ⟨(0), (0), (by first | rfl | (simp; done) | (simp [*]; done)), (by first | rfl | (simp; done) | (simp [*]; done)), H', ⟨Nat.le_refl _⟩, ⟨by (with_reducible repeat (first | refine bN ?_ _ | refine bD ?_ | refine bA ?_ _)); exact BK287.out⟩, ⟨by repeat (first | (with_reducible first | exact HB.out | apply lA | apply lN | apply lD | refine lS ?_ GE287.out) | exact HB.out)⟩⟩
    case round =>
     clear H'
     (try clear c17)
     obtain ⟨x7_2, x8_2, rfl, rfl, HA, HK2, BK287, HB⟩ := hrel
     cases gk with
     | zero => exact absurd HA.out (by simp [spec_Permitted.l0])
     | succ k2 =>
      have H := HA.out
      clear HA
      simp only [spec_Permitted.l0] at H
      have HC18 := MK H
      clear H
      go_upto_region 5 with (fail)
      go_cut [38] (fun v38 wc => ∃ (kq : Nat) (x38_17 : Bool), v38 = .bool x38_17 ∧ Aside0 (spec_Permitted.j2 kq a1 a2 x7_2 x8_2 x38_17 a0_0 a0_1 a0_2 a0_3 a0_4 = some r) ∧ Aside0 (kq ≤ k2) ∧ Aside0 (wc.heap[gb287]? = some (.cells #[.int .i64 a0_0, .int .i64 a0_1, .int .i64 a0_2, .int .i64 a0_3, .int .i64 a0_4] 32 (0, 0))) ∧ Aside0 (Below w.heap.size w wc))
      case first =>
       have H := HC18.out
       clear HC18
       by_cases c19 : x8_2 ≤ a2
       ·rw [if_pos c19] at H
        have c19b0 : decide (x8_2 ≤ a2) = true := decide_eq_true c19
        clear c19
        (first | rw [c19b0] | (simp only [i64_w, i32_w]; rw [c19b0]) | skip)
        replace H := Option.bind_eq_some_iff.mp H
        obtain ⟨t291, A200, H⟩ := H
        replace H : (if t291 ≤ a1 then ((spec_l1gentle.f k2 a0_0 a0_1 a0_2 a0_3 a0_4 x8_2).bind fun t292 => (spec_Permitted.j2 k2 a1 a2 x7_2 x8_2 (decide (t292 ≤ a1)) a0_0 a0_1 a0_2 a0_3 a0_4)) else (spec_Permitted.j2 k2 a1 a2 x7_2 x8_2 false a0_0 a0_1 a0_2 a0_3 a0_4)) = some r := H
        have A20 := MK A200
        clear A200
        by_cases c21 : t291 ≤ a1
        ·rw [if_pos c21] at H
         have c21b0 : decide (t291 ≤ a1) = true := decide_eq_true c21
         clear c21
         replace H := Option.bind_eq_some_iff.mp H
         obtain ⟨t292, A220, H⟩ := H
         replace H : (spec_Permitted.j2 k2 a1 a2 x7_2 x8_2 (decide (t292 ≤ a1)) a0_0 a0_1 a0_2 a0_3 a0_4) = some r := H
         have A22 := MK A220
         clear A220
         have H' := MK H
         clear H
         obtain ⟨hcz23_0, hcz23_1, hcz23_2, hcz23_3, hcz23_4⟩ := bc5 BK287.out
         obtain ⟨hfz23_0, hfz23_1, hfz23_2, hfz23_3, hfz23_4⟩ := bf5 BK287.out
         go_wp2_with (first | (go_at_call 62; (with_reducible refine (spec_l1worst.calls k2 a0_0 a0_1 a0_2 a0_3 a0_4 x8_2 t291 _ A20.out).mono ?_); rintro e w24 ⟨rfl, hb⟩; have n0_ := MK (blk_below (by (with_reducible repeat (first | refine bN ?_ _ | refine bD ?_ | refine bA ?_ _)); exact BK287.out) hb); have n1_ := MK (below_step (by repeat (first | (with_reducible first | exact HB.out | apply lA | apply lN | apply lD | refine lS ?_ GE287.out) | exact HB.out)) hb); clear BK287; clear HB; have BK287 := n0_; have HB := n1_; clear n0_ n1_; (try clear hb); (try clear hb2); (try clear hk); (try clear hi); obtain ⟨hcz25_0, hcz25_1, hcz25_2, hcz25_3, hcz25_4⟩ := bc5 BK287.out; obtain ⟨hfz25_0, hfz25_1, hfz25_2, hfz25_3, hfz25_4⟩ := bf5 BK287.out) | (go_at_call 60; (with_reducible refine (spec_l1gentle.calls k2 a0_0 a0_1 a0_2 a0_3 a0_4 x8_2 t292 _ A22.out).mono ?_); rintro e w26 ⟨rfl, hb⟩; have n0_ := MK (blk_below (by (with_reducible repeat (first | refine bN ?_ _ | refine bD ?_ | refine bA ?_ _)); exact BK287.out) hb); have n1_ := MK (below_step (by repeat (first | (with_reducible first | exact HB.out | apply lA | apply lN | apply lD | refine lS ?_ GE287.out) | exact HB.out)) hb); clear BK287; clear HB; have BK287 := n0_; have HB := n1_; clear n0_ n1_; (try clear hb); (try clear hb2); (try clear hk); (try clear hi)))
         go_meet
         case rel => exact ⟨_, (decide (t292 ≤ a1)), (by first | rfl | (simp; done) | (simp [*]; done)), H', ⟨by have := HJ3.out; have := HK2.out; first | omega | exact Nat.le_refl _⟩, ⟨by (with_reducible repeat (first | refine bN ?_ _ | refine bD ?_ | refine bA ?_ _)); exact BK287.out⟩, ⟨by repeat (first | (with_reducible first | exact HB.out | apply lA | apply lN | apply lD | refine lS ?_ GE287.out) | exact HB.out)⟩⟩
        ·rw [if_neg c21] at H
         have c21b0 : decide (t291 ≤ a1) = false := decide_eq_false c21
         clear c21
         have H' := MK H
         clear H
         obtain ⟨hcz27_0, hcz27_1, hcz27_2, hcz27_3, hcz27_4⟩ := bc5 BK287.out
         obtain ⟨hfz27_0, hfz27_1, hfz27_2, hfz27_3, hfz27_4⟩ := bf5 BK287.out
         go_wp2_with (first | (go_at_call 62; (with_reducible refine (spec_l1worst.calls k2 a0_0 a0_1 a0_2 a0_3 a0_4 x8_2 t291 _ A20.out).mono ?_); rintro e w28 ⟨rfl, hb⟩; have n0_ := MK (blk_below (by (with_reducible repeat (first | refine bN ?_ _ | refine bD ?_ | refine bA ?_ _)); exact BK287.out) hb); have n1_ := MK (below_step (by repeat (first | (with_reducible first | exact HB.out | apply lA | apply lN | apply lD | refine lS ?_ GE287.out) | exact HB.out)) hb); clear BK287; clear HB; have BK287 := n0_; have HB := n1_; clear n0_ n1_; (try clear hb); (try clear hb2); (try clear hk); (try clear hi)))
         go_meet
         case rel => exact ⟨_, (false), (by first | rfl | (simp; done) | (simp [*]; done)), H', ⟨by have := HJ3.out; have := HK2.out; first | omega | exact Nat.le_refl _⟩, ⟨by (with_reducible repeat (first | refine bN ?_ _ | refine bD ?_ | refine bA ?_ _)); exact BK287.out⟩, ⟨by repeat (first | (with_reducible first | exact HB.out | apply lA | apply lN | apply lD | refine lS ?_ GE287.out) | exact HB.out)⟩⟩
       ·rw [if_neg c19] at H
        have c19b0 : decide (x8_2 ≤ a2) = false := decide_eq_false c19
        clear c19
        (first | rw [c19b0] | (simp only [i64_w, i32_w]; rw [c19b0]) | skip)
        have H' := MK H
        clear H
        go_wp2
        go_meet
        case rel => exact ⟨_, (false), (by first | rfl | (simp; done) | (simp [*]; done)), H', ⟨by have := HJ3.out; have := HK2.out; first | omega | exact Nat.le_refl _⟩, ⟨by (with_reducible repeat (first | refine bN ?_ _ | refine bD ?_ | refine bA ?_ _)); exact BK287.out⟩, ⟨by repeat (first | (with_reducible first | exact HB.out | apply lA | apply lN | apply lD | refine lS ?_ GE287.out) | exact HB.out)⟩⟩
      case rest =>
       clear HC18
       (try clear c17)
       obtain ⟨kq, x38_17, rfl, HA, HJ17, BK287, HB⟩ := hcut
       cases kq with
       | zero => exact absurd HA.out (by simp [spec_Permitted.j2])
       | succ kj17 =>
        have H := HA.out
        clear HA
        simp only [spec_Permitted.j2] at H
        by_cases c29 : x38_17 = true
        ·subst c29
         have H1 : (spec_Permitted.l0 kj17 a1 a2 x8_2 (wrap64 (x8_2 + 1)) a0_0 a0_1 a0_2 a0_3 a0_4) = some r := by rw [if_pos rfl] at H; exact H
         clear H
         have H := H1
         clear H1
         have H' := MK H
         clear H
         go_wp2
         go_roundg kj17
         case measure => have := HJ3.out; have := HK2.out; have := HJ17.out; omega
         case rel => exact ⟨(x8_2), (wrap64 (x8_2 + 1)), (by first | rfl | (simp; done) | (simp [*]; done)), (by first | rfl | (simp; done) | (simp [*]; done)), H', ⟨by have := HJ3.out; have := HK2.out; have := HJ17.out; omega⟩, ⟨by (with_reducible repeat (first | refine bN ?_ _ | refine bD ?_ | refine bA ?_ _)); exact BK287.out⟩, ⟨by repeat (first | (with_reducible first | exact HB.out | apply lA | apply lN | apply lD | refine lS ?_ GE287.out) | exact HB.out)⟩⟩
        ·replace c29 := Bool.eq_false_iff.mpr c29
         subst c29
         have H1 : (some x7_2) = some r := by rw [if_neg (show ¬ (false = true) by decide)] at H; exact H
         clear H
         have H := H1
         clear H1
         obtain rfl := Option.some.inj H
         go_wp2
         go_ret
         exact ⟨by first | rfl | (simp [errW_none, errW_some] <;> rfl) | (simp [*, errW_none, errW_some] <;> rfl), by repeat (first | (with_reducible first | exact HB.out | apply lA | apply lN | apply lD | refine lS ?_ GE287.out) | exact HB.out)⟩

/-! ### impl_Permitted: function 34 -/
theorem impl_Gentle.is (s h d a wn v : Int) (ok : Dm.okB s h d a wn) (hv : 0 ≤ v) (hv2 : v ≤ 10000) (q : Nat) (hq : 20100 < q) : impl_Gentle.f q s h d a wn v = some (Dm.gentleM s d wn v) := by
  unfold impl_Gentle.f
  rw [impl_BrakesOk.is, decide_eq_true ok, impl_in.is, decide_eq_true ⟨hv, hv2⟩]
  obtain ⟨⟨s1, s2⟩, ⟨h1, h2⟩, ⟨d1, d2⟩, ⟨a1, a2⟩, ⟨w1, w2⟩⟩ := ok
  simp only [Option.bind_some, if_true]
  unfold impl_braked.f
  rw [impl_braked.is s (by omega) s2 q v 0 (by omega) (by omega) (by omega) (by omega)]
  have e1 : wrap64 (d + wn) = d + wn := by unfold wrap64; omega
  have e2 : wrap64 (d + wn + 1) = d + wn + 1 := by unfold wrap64; omega
  have hb := Dm.mul_bd (d + wn + 1) v (by omega) (by omega) hv hv2
  have b1 := Dm.brake_ge v s (by omega)
  have b2 := Dm.brake_le v s (by omega) hv (by omega)
  have e3 : wrap64 ((d + wn + 1) * v) = (d + wn + 1) * v := by unfold wrap64; omega
  simp only [Option.bind_some, Int.zero_add]
  rw [e1, e2, e3]
  have e4 : wrap64 ((d + wn + 1) * v + Dm.brake v s) = (d + wn + 1) * v + Dm.brake v s := by unfold wrap64; omega
  rw [e4]
  rfl

set_option maxHeartbeats 1600000 in
set_option maxRecDepth 100000 in
theorem impl_Permitted.lit (B R base : Nat) (s h d a wn room v : Int) (w : World) (ok : Dm.okB s h d a wn) (hv : 0 ≤ v) (hv2 : v ≤ 10000) (H : Aside0 (DmHolds B R base s h d a wn room w)) :
    Calls Try.prog 66 #[.int .i64 v, .pointer (some ⟨B, 0, none⟩), .pointer (some ⟨R, 0, none⟩)] w fun e w' => e = .returned (.bool (decide (Dm.worstM h d a v ≤ room) && decide (Dm.gentleM s d wn v ≤ room))) ∧ Below w.heap.size w w' := by
  have hw := MK (impl_worst.is s h d a wn v ok hv hv2 20101 (by omega))
  have hge := MK (impl_Gentle.is s h d a wn v ok hv hv2 20101 (by omega))
  clear ok
  obtain ⟨⟨c0, c1, c2, c3, c4, c5⟩, hB, hR, hs⟩ := H.out
  have hB' : B < w.heap.size := Nat.lt_of_lt_of_le hB hs
  have hR' : R < w.heap.size := Nat.lt_of_lt_of_le hR hs
  have B0 := Below.refl w.heap.size w
  clear H hs hB hR
  have hu := Try.underlying32
  by_cases hwr : Dm.worstM h d a v ≤ room
  · have hdw : decide (Dm.worstM h d a v ≤ room) = true := decide_eq_true hwr
    clear hwr
    go_enter Try.func66, Try.ntmps66
    go_wp2_with fail
    go_region_held3 (fun w' => w'.cell? ⟨B, 0, none⟩ = some (.int .i64 s) ∧ w'.cell? ⟨B, 1, none⟩ = some (.int .i64 h) ∧ w'.cell? ⟨B, 2, none⟩ = some (.int .i64 d) ∧ w'.cell? ⟨B, 3, none⟩ = some (.int .i64 a) ∧ w'.cell? ⟨B, 4, none⟩ = some (.int .i64 wn) ∧ w'.cell? ⟨R, 0, none⟩ = some (.int .i64 room) ∧ Below w.heap.size w w')
      (first | exact ⟨c0, c1, c2, c3, c4, c5, B0.drew⟩ | exact dm_held ‹_› hb hB' hR')
      (first | (go_at_call 63; refine (impl_worst.calls 20101 s h d a wn v _ _ hw.out).mono ?_; rintro e w' ⟨rfl, hb⟩)
             | (go_at_call 28; refine (impl_Gentle.calls 20101 s h d a wn v _ _ hge.out).mono ?_; rintro e w' ⟨rfl, hb⟩))
    all_goals go_wp2
    all_goals go_ret
    all_goals exact ⟨by rw [hdw, Bool.true_and]; rfl, dm_below ‹_›⟩
  · have hdw : decide (Dm.worstM h d a v ≤ room) = false := decide_eq_false hwr
    clear hwr
    go_enter Try.func66, Try.ntmps66
    go_wp2_with fail
    refine wp_region_held_drew (S := (fun w' => w'.cell? ⟨B, 0, none⟩ = some (.int .i64 s) ∧ w'.cell? ⟨B, 1, none⟩ = some (.int .i64 h) ∧ w'.cell? ⟨B, 2, none⟩ = some (.int .i64 d) ∧ w'.cell? ⟨B, 3, none⟩ = some (.int .i64 a) ∧ w'.cell? ⟨B, 4, none⟩ = some (.int .i64 wn) ∧ w'.cell? ⟨R, 0, none⟩ = some (.int .i64 room) ∧ Below w.heap.size w w')) (by kernel_rfl) ⟨c0, c1, c2, c3, c4, c5, B0.drew⟩ (fun hHeld => ?_)
    refine wpAnyH_take (i := 0) (oi := ⟨some 5, _, _, _, _, _⟩) (v := ?_) rfl (by kernel_rfl) (by kernel_rfl) (by kernel_rfl) (fun _ _ _ h => h) (Or.inl ⟨rfl, ?_⟩) (by assumption) ?_
    rotate_left
    · intro w hSw
      (try dsimp only at hSw)
      go_simp
      (try with_reducible rfl)
    try simp only [Act.put, List.setIfInBounds_toArray, List.set_cons_zero, List.set_cons_succ]
    refine wpAnyH_take (i := 1) (oi := ⟨some 6, _, _, _, _, _⟩) (v := ?_) rfl (by kernel_rfl) (by kernel_rfl) (by kernel_rfl) (fun _ _ _ h => h) (Or.inl ⟨rfl, ?_⟩) (by assumption) ?_
    rotate_left
    · intro w hSw
      (try dsimp only at hSw)
      go_simp
      (try with_reducible rfl)
    try simp only [Act.put, List.setIfInBounds_toArray, List.set_cons_zero, List.set_cons_succ]
    refine wpAnyH_take (i := 3) (oi := ⟨some 8, _, _, _, _, _⟩) (v := ?_) rfl (by kernel_rfl) (by kernel_rfl) (by kernel_rfl) (fun _ _ _ h => h) (Or.inl ⟨rfl, ?_⟩) (by assumption) ?_
    rotate_left
    · intro w hSw
      (try dsimp only at hSw)
      go_simp
      (try with_reducible rfl)
    try simp only [Act.put, List.setIfInBounds_toArray, List.set_cons_zero, List.set_cons_succ]
    refine wpAnyH_ready (rs := [2]) (by kernel_rfl) (by simp) ?_
    refine AllReadyH.cons rfl (fun K hK => ?_) AllReadyH.nil
    go_simp
    (go_at_call 63; refine (impl_worst.calls 20101 s h d a wn v _ _ hw.out).mono ?_; rintro e w' ⟨rfl, hb⟩)
    refine hK.out _ _ (dm_held hHeld hb hB' hR') (fun hHeld2 => ?_)
    clear hK K hHeld
    try simp only [Act.put, List.setIfInBounds_toArray, List.set_cons_zero, List.set_cons_succ]
    refine wpAnyH_take (i := 4) (oi := ⟨some 9, _, _, _, _, _⟩) (v := ?_) rfl (by kernel_rfl) (by kernel_rfl) (by kernel_rfl) (fun _ _ _ h => h) (Or.inl ⟨rfl, ?_⟩) (by assumption) ?_
    rotate_left
    · intro w hSw
      (try dsimp only at hSw)
      go_simp
      (try with_reducible rfl)
    try simp only [Act.put, List.setIfInBounds_toArray, List.set_cons_zero, List.set_cons_succ]
    refine wpAnyH_take (i := 5) (oi := ⟨some 10, _, _, _, _, _⟩) (v := ?_) rfl (by kernel_rfl) (by kernel_rfl) (by kernel_rfl) (fun _ _ _ h => h) (Or.inl ⟨rfl, ?_⟩) (by assumption) ?_
    rotate_left
    · intro w hSw
      (try dsimp only at hSw)
      go_simp
      (try with_reducible rfl)
    try simp only [Act.put, List.setIfInBounds_toArray, List.set_cons_zero, List.set_cons_succ]
    refine wpAnyH_take (i := 6) (oi := ⟨some 11, _, _, _, _, _⟩) (v := undef) rfl (by kernel_rfl) (by kernel_rfl) (by kernel_rfl) (fun _ _ _ h => h) (Or.inr ⟨rfl, rfl⟩) (by assumption) ?_
    try simp only [Act.put, List.setIfInBounds_toArray, List.set_cons_zero, List.set_cons_succ]
    refine wpAnyH_take (i := 7) (oi := ⟨some 12, _, _, _, _, _⟩) (v := undef) rfl (by kernel_rfl) (by kernel_rfl) (by kernel_rfl) (fun _ _ _ h => h) (Or.inr ⟨rfl, rfl⟩) (by assumption) ?_
    try simp only [Act.put, List.setIfInBounds_toArray, List.set_cons_zero, List.set_cons_succ]
    refine wpAnyH_take (i := 8) (oi := ⟨some 13, _, _, _, _, _⟩) (v := undef) rfl (by kernel_rfl) (by kernel_rfl) (by kernel_rfl) (fun _ _ _ h => h) (Or.inr ⟨rfl, rfl⟩) (by assumption) ?_
    try simp only [Act.put, List.setIfInBounds_toArray, List.set_cons_zero, List.set_cons_succ]
    refine wpAnyH_take (i := 9) (oi := ⟨some 14, _, _, _, _, _⟩) (v := undef) rfl (by kernel_rfl) (by kernel_rfl) (by kernel_rfl) (fun _ _ _ h => h) (Or.inr ⟨rfl, rfl⟩) (by assumption) ?_
    try simp only [Act.put, List.setIfInBounds_toArray, List.set_cons_zero, List.set_cons_succ]
    refine wpAnyH_take (i := 10) (oi := ⟨some 15, _, _, _, _, _⟩) (v := undef) rfl (by kernel_rfl) (by kernel_rfl) (by kernel_rfl) (fun _ _ _ h => h) (Or.inr ⟨rfl, rfl⟩) (by assumption) ?_
    try simp only [Act.put, List.setIfInBounds_toArray, List.set_cons_zero, List.set_cons_succ]
    refine wpAnyH_take (i := 11) (oi := ⟨some 16, _, _, _, _, _⟩) (v := ?_) rfl (by kernel_rfl) (by kernel_rfl) (by kernel_rfl) (fun _ _ _ h => h) (Or.inl ⟨rfl, ?_⟩) (by assumption) ?_
    rotate_left
    · intro w hSw
      (try dsimp only at hSw)
      go_simp
      (try with_reducible rfl)
    try simp only [Act.put, List.setIfInBounds_toArray, List.set_cons_zero, List.set_cons_succ]
    refine wpAnyH_take (i := 12) (oi := ⟨some 4, _, _, _, _, _⟩) (v := ?_) rfl (by kernel_rfl) (by kernel_rfl) (by kernel_rfl) (fun _ _ _ h => h) (Or.inl ⟨rfl, ?_⟩) (by assumption) ?_
    rotate_left
    · intro w hSw
      (try dsimp only at hSw)
      go_simp
      (try with_reducible rfl)
    try simp only [Act.put, List.setIfInBounds_toArray, List.set_cons_zero, List.set_cons_succ]
    refine wpAnyH_done (by kernel_rfl) ?_ _
    all_goals go_wp2
    all_goals go_ret
    all_goals exact ⟨by (try rw [hdw, Bool.false_and]); rfl, dm_below ‹_›⟩

set_option maxHeartbeats 1600000 in
set_option maxRecDepth 100000 in
theorem impl_most.at66 (B R base : Nat) (s h d a wn room n : Int) (good : Int → Bool) (w : World) (hn : 0 ≤ n) (hn2 : n ≤ 10000) (hf : Aside0 (Dm.Falls good)) (H : Aside0 (DmHolds B R base s h d a wn room w))
    (hg : Aside0 (∀ (v : Int) (wr : World), 0 ≤ v → v ≤ 10000 → Aside0 (DmHolds B R base s h d a wn room wr) →
      Calls Try.prog 66 #[.int .i64 v, .pointer (some ⟨B, 0, none⟩), .pointer (some ⟨R, 0, none⟩)] wr fun e w' => e = .returned (.bool (good v)) ∧ Below wr.heap.size wr w')) :
    Calls Try.prog 64 #[.int .i64 n, .func (.func 66) #[] #[.pointer (some ⟨B, 0, none⟩), .pointer (some ⟨R, 0, none⟩)]] w fun e w' => e = .returned (.int .i64 (Dm.top good (n + 1).toNat)) ∧ Below w.heap.size w w' := by
  go_enter Try.func64, Try.ntmps64
  go_wp2_with fail
  go_loopw [5, 6] (fun lo hi wr => ∃ x y : Int, lo = .int .i64 x ∧ hi = .int .i64 y ∧ -1 ≤ x ∧ x ≤ y ∧ y ≤ n ∧ Aside0 (DmInv good (n + 1).toNat x y) ∧ Aside0 (DmHolds B R base s h d a wn room wr) ∧ Aside0 (Below w.heap.size w wr)) (fun lo hi _ => (intOf hi - intOf lo).toNat)
  case atStart => exact ⟨-1, n, rfl, rfl, by omega, by omega, by omega, ⟨fun h => by omega, fun v h1 h2 => by omega⟩, H, ⟨Below.refl _ _⟩⟩
  case round =>
    obtain ⟨x, y, rfl, rfl, hx, hxy, hy, IV, HH, HB⟩ := hrel
    by_cases hlt : x < y
    · cases hgm : good ((x + y + 1) / 2) with
      | true =>
        have G := MK hgm
        clear hgm
        go_wp2_with (first | (go_at_call 66; refine ((hg.out ((x + y + 1) / 2) _ (by omega) (by omega) HH).mono ?_); rw [G.out]; rintro e w' ⟨rfl, hb⟩))
        go_roundw
        case rel => exact ⟨(x + y + 1) / 2, y, rfl, rfl, by omega, by omega, by omega, ⟨IV.out.up G.out⟩, ⟨HH.out.below hb HH.out.2.2.2⟩, ⟨HB.out.trans (hb.mono HB.out.size)⟩⟩
        case measure => simp [intOf]; omega
      | false =>
        have G := MK hgm
        clear hgm
        go_wp2_with (first | (go_at_call 66; refine ((hg.out ((x + y + 1) / 2) _ (by omega) (by omega) HH).mono ?_); rw [G.out]; rintro e w' ⟨rfl, hb⟩))
        go_roundw
        case rel => exact ⟨x, (x + y + 1) / 2 - 1, rfl, rfl, by omega, by omega, by omega, ⟨IV.out.down hf.out G.out⟩, ⟨HH.out.below hb HH.out.2.2.2⟩, ⟨HB.out.trans (hb.mono HB.out.size)⟩⟩
        case measure => simp [intOf]; omega
    · have he := IV.out.done (by omega) hx (by omega)
      have HE := MK he
      clear he
      go_wp2_with fail
      go_ret
      exact ⟨dm_ret HE.out, HB.out⟩

def impl_Permitted.f (a0_0 : Int) (a0_1 : Int) (a0_2 : Int) (a0_3 : Int) (a0_4 : Int) (a1 : Int) (a2 : Int) : Option (Int) := some (Dm.permittedM a0_0 a0_1 a0_2 a0_3 a0_4 a1 a2)
set_option maxHeartbeats 1600000 in
set_option maxRecDepth 100000 in
theorem impl_Permitted.calls (a0_0 : Int) (a0_1 : Int) (a0_2 : Int) (a0_3 : Int) (a0_4 : Int) (a1 : Int) (a2 : Int) (r : Int) (w : World) (h : impl_Permitted.f a0_0 a0_1 a0_2 a0_3 a0_4 a1 a2 = some r) :
    Calls Try.prog 34 #[.agg #[.int .i64 a0_0, .int .i64 a0_1, .int .i64 a0_2, .int .i64 a0_3, .int .i64 a0_4], .int .i64 a1, .int .i64 a2] w fun e w' => e = .returned (.int .i64 r) ∧ Below w.heap.size w w' := by
  obtain rfl := Option.some.inj h
  clear h
  have hmf : ∀ (fn : Fn) (first cap : Array Value) (w : World), (Instr.makeFunc fn first cap).run Try.prog w = .ok (.func fn first cap) w := fun _ _ _ _ => rfl
  have hu := Try.underlying32
  by_cases ok : Dm.okB a0_0 a0_1 a0_2 a0_3 a0_4
  · have hF : Aside0 (impl_BrakesOk.f a0_0 a0_1 a0_2 a0_3 a0_4 = some true) := ⟨by rw [impl_BrakesOk.is, decide_eq_true ok]⟩
    by_cases rm : 0 ≤ a1 ∧ a1 ≤ 100000000
    · have hI : Aside0 (impl_in.f a1 0 100000000 = some true) := ⟨by rw [impl_in.is, decide_eq_true rm]⟩
      by_cases lm : 0 ≤ a2 ∧ a2 ≤ 10000
      · have hL : Aside0 (impl_in.f a2 0 10000 = some true) := ⟨by rw [impl_in.is, decide_eq_true lm]⟩
        have hE : Aside0 (Dm.permittedM a0_0 a0_1 a0_2 a0_3 a0_4 a1 a2 = max 0 (Dm.top (fun v => decide (Dm.worstM a0_1 a0_2 a0_3 v ≤ a1) && decide (Dm.gentleM a0_0 a0_2 a0_4 v ≤ a1)) (a2 + 1).toNat)) := ⟨by unfold Dm.permittedM; rw [if_pos ⟨ok, rm, lm⟩]⟩
        have hfl : Aside0 (Dm.Falls (fun v => decide (Dm.worstM a0_1 a0_2 a0_3 v ≤ a1) && decide (Dm.gentleM a0_0 a0_2 a0_4 v ≤ a1))) := ⟨Dm.both_falls _ _ _ _ _ _ (by have := ok.1; omega) (by have := ok.1; have := ok.2.1; omega) ok.2.2.1.1 ok.2.2.2.2.1⟩
        have OK := MK ok
        have hl1 := lm.1
        have hl2 := lm.2
        clear ok rm lm
        go_enter Try.func34, Try.ntmps34
        go_wp2_with (first
          | (go_at_call 20; refine (impl_BrakesOk.calls a0_0 a0_1 a0_2 a0_3 a0_4 true _ hF.out).mono ?_; rintro e w1 ⟨rfl, hb⟩; have HH := MK (dm_start w w1 _ _ _ _ _ _ _ _ hb); have HB := MK (dm_two hb); clear hb; have c5 := HH.out.1.2.2.2.2.2)
          | (go_at_call 57; (with_reducible refine (impl_in.calls a1 0 100000000 true _ hI.out).mono ?_); rintro e w2 ⟨rfl, hd⟩; have HB2 := MK (dm_on HB.out hd.below HB.out.size); have HH2 := MK (HH.out.below hd.below HH.out.2.2.2); clear hd HB HH)
          | (go_at_call 57; (with_reducible refine (impl_in.calls a2 0 10000 true _ hL.out).mono ?_); rintro e w3 ⟨rfl, hd⟩; have HB3 := MK (dm_on HB2.out hd.below HB2.out.size); have HH3 := MK (HH2.out.below hd.below HH2.out.2.2.2); clear hd HB2 HH2)
          | (go_at_call 64; refine (impl_most.at66 w.heap.size (w.heap.size + 1) (w.heap.size + 2) a0_0 a0_1 a0_2 a0_3 a0_4 a1 a2 _ _ hl1 hl2 hfl HH3 ⟨fun v wr h1 h2 h3 => impl_Permitted.lit _ _ _ a0_0 a0_1 a0_2 a0_3 a0_4 a1 v wr OK.out h1 h2 h3⟩).mono ?_; rintro e w4 ⟨rfl, hb⟩; have HB4 := MK (dm_on HB3.out hb HB3.out.size); clear hb))
        all_goals go_ret
        all_goals exact ⟨dm_ret (by rw [hE.out]; omega), HB4.out⟩
      · have hL : Aside0 (impl_in.f a2 0 10000 = some false) := ⟨by rw [impl_in.is, decide_eq_false lm]⟩
        have hE : Aside0 (Dm.permittedM a0_0 a0_1 a0_2 a0_3 a0_4 a1 a2 = -1) := ⟨by unfold Dm.permittedM; rw [if_neg (fun z => lm z.2.2)]⟩
        clear ok rm lm
        go_enter Try.func34, Try.ntmps34
        go_wp2_with (first
          | (go_at_call 20; refine (impl_BrakesOk.calls a0_0 a0_1 a0_2 a0_3 a0_4 true _ hF.out).mono ?_; rintro e w1 ⟨rfl, hb⟩; have HH := MK (dm_start w w1 _ _ _ _ _ _ _ _ hb); have HB := MK (dm_two hb); clear hb; have c5 := HH.out.1.2.2.2.2.2)
          | (go_at_call 57; (with_reducible refine (impl_in.calls a1 0 100000000 true _ hI.out).mono ?_); rintro e w2 ⟨rfl, hd⟩; have HB2 := MK (dm_on HB.out hd.below HB.out.size); have HH2 := MK (HH.out.below hd.below HH.out.2.2.2); clear hd HB HH)
          | (go_at_call 57; (with_reducible refine (impl_in.calls a2 0 10000 false _ hL.out).mono ?_); rintro e w3 ⟨rfl, hd⟩; have HB3 := MK (dm_on HB2.out hd.below HB2.out.size); have HH3 := MK (HH2.out.below hd.below HH2.out.2.2.2); clear hd HB2 HH2))
        go_ret
        exact ⟨dm_ret hE.out, HB3.out⟩
    · have hI : Aside0 (impl_in.f a1 0 100000000 = some false) := ⟨by rw [impl_in.is, decide_eq_false rm]⟩
      have hE : Aside0 (Dm.permittedM a0_0 a0_1 a0_2 a0_3 a0_4 a1 a2 = -1) := ⟨by unfold Dm.permittedM; rw [if_neg (fun z => rm z.2.1)]⟩
      clear ok rm
      go_enter Try.func34, Try.ntmps34
      go_wp2_with (first
        | (go_at_call 20; refine (impl_BrakesOk.calls a0_0 a0_1 a0_2 a0_3 a0_4 true _ hF.out).mono ?_; rintro e w1 ⟨rfl, hb⟩; have HH := MK (dm_start w w1 _ _ _ _ _ _ _ _ hb); have HB := MK (dm_two hb); clear hb; have c5 := HH.out.1.2.2.2.2.2)
        | (go_at_call 57; (with_reducible refine (impl_in.calls a1 0 100000000 false _ hI.out).mono ?_); rintro e w2 ⟨rfl, hd⟩; have HB2 := MK (dm_on HB.out hd.below HB.out.size); have HH2 := MK (HH.out.below hd.below HH.out.2.2.2); clear hd HB HH))
      go_ret
      exact ⟨dm_ret hE.out, HB2.out⟩
  · have hF : Aside0 (impl_BrakesOk.f a0_0 a0_1 a0_2 a0_3 a0_4 = some false) := ⟨by rw [impl_BrakesOk.is, decide_eq_false ok]⟩
    have hE : Aside0 (Dm.permittedM a0_0 a0_1 a0_2 a0_3 a0_4 a1 a2 = -1) := ⟨by unfold Dm.permittedM; rw [if_neg (fun z => ok z.1)]⟩
    clear ok
    go_enter Try.func34, Try.ntmps34
    go_wp2_with (first
      | (go_at_call 20; refine (impl_BrakesOk.calls a0_0 a0_1 a0_2 a0_3 a0_4 false _ hF.out).mono ?_; rintro e w1 ⟨rfl, hb⟩; have HB := MK (dm_two hb); clear hb))
    go_ret
    exact ⟨dm_ret hE.out, HB.out⟩

end Go.Proofs.Ytnikfadkmhcalaa.Q
