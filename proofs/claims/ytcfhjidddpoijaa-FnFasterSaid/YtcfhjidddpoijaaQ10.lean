/- The walks of the program's functions: what a call of each answers is what its Lean function tells; conditions: none but that the Lean function tells something (a bound on rounds). Written by a program of this session out of the translation. -/
import Derived.Test.YtcfhjidddpoijaaQ0
import Derived.Test.YtcfhjidddpoijaaQ4
import Derived.Test.YtcfhjidddpoijaaQ9
namespace Go.Proofs.Ytcfhjidddpoijaa.Q
open Go.RowKit Go.Proofs.YtcfhjidddpoijaaW.PrintWords Go.Proofs.YtcfhjidddpoijaaW.PrintLast Go.Proofs.YtcfhjidddpoijaaW.PrintMore
attribute [local go_sem] max2_int min2_int max_two min_two max_three min_three max_four min_four   -- for this text's walks alone
set_option linter.unusedVariables false
set_option linter.unusedSimpArgs false

/-! ### laws_FnFaster: function 3 -/
mutual
def laws_FnFaster.l0 : Nat → List (S35) → Int → Int → List (S35) → Int → Int → Int → Int → Int → Int → Int → Option (Bool)
 | 0, _, _, _, _, _, _, _, _, _, _, _ => none
 | k + 1, x5, x6, x7, x29, x30, x31, x298000, x298001, x298002, x298003, x298004 => if x31 < x30 then (if 0 ≤ x31 then (if x31 < (x29.length : Int) then (if ((rd_T35 x29 x31).f1) > (wrap64 (x6 + x298003)) then (some false) else (if ((rd_T35 x29 x31).f2.f1.f0) = 3 then (if x31 > 0 then (if 0 ≤ (wrap64 (x31 - 1)) then (if (wrap64 (x31 - 1)) < (x5.length : Int) then (laws_FnFaster.j1 k x5 x6 x7 x29 x30 x31 (((rd_T35 x5 (wrap64 (x31 - 1))).f2.f1.f0) != 3) x298000 x298001 x298002 x298003 x298004 ((rd_T35 x29 x31).f0) ((rd_T35 x29 x31).f1) ((rd_T35 x29 x31).f2.f0) ((rd_T35 x29 x31).f2.f1.f0) ((rd_T35 x29 x31).f2.f1.f1) ((rd_T35 x29 x31).f2.f2) ((rd_T35 x29 x31).f2.f3) ((rd_T35 x29 x31).f2.f4)) else (none)) else (none)) else (laws_FnFaster.j1 k x5 x6 x7 x29 x30 x31 false x298000 x298001 x298002 x298003 x298004 ((rd_T35 x29 x31).f0) ((rd_T35 x29 x31).f1) ((rd_T35 x29 x31).f2.f0) ((rd_T35 x29 x31).f2.f1.f0) ((rd_T35 x29 x31).f2.f1.f1) ((rd_T35 x29 x31).f2.f2) ((rd_T35 x29 x31).f2.f3) ((rd_T35 x29 x31).f2.f4))) else (laws_FnFaster.l0 k x5 ((rd_T35 x29 x31).f1) x7 x29 x30 (wrap64 (x31 + 1)) x298000 x298001 x298002 x298003 x298004))) else (none)) else (none)) else (some true)
def laws_FnFaster.j1 : Nat → List (S35) → Int → Int → List (S35) → Int → Int → Bool → Int → Int → Int → Int → Int → Int → Int → Bool → Int → Int → Int → Bool → Bool → Option (Bool)
 | 0, _, _, _, _, _, _, _, _, _, _, _, _, _, _, _, _, _, _, _, _ => none
 | k + 1, x5, x6, x7, x29, x30, x31, x60, x298000, x298001, x298002, x298003, x298004, x303000, x303001, x303002, x303003, x303004, x303005, x303006, x303007 => if x60 = true then (laws_FnFaster.j2 k x5 x6 0 x29 x30 x31 x298000 x298001 x298002 x298003 x298004 x303000 x303001 x303002 x303003 x303004 x303005 x303006 x303007) else (laws_FnFaster.j2 k x5 x6 x7 x29 x30 x31 x298000 x298001 x298002 x298003 x298004 x303000 x303001 x303002 x303003 x303004 x303005 x303006 x303007)
def laws_FnFaster.j2 : Nat → List (S35) → Int → Int → List (S35) → Int → Int → Int → Int → Int → Int → Int → Int → Int → Bool → Int → Int → Int → Bool → Bool → Option (Bool)
 | 0, _, _, _, _, _, _, _, _, _, _, _, _, _, _, _, _, _, _, _ => none
 | k + 1, x5, x6, x7, x29, x30, x31, x298000, x298001, x298002, x298003, x298004, x303000, x303001, x303002, x303003, x303004, x303005, x303006, x303007 => if (wrap64 (x7 + 1)) > x298002 then (if x303001 > 0 then (laws_FnFaster.j3 k x5 (wrap64 (x7 + 1)) x29 x30 x31 (decide (x303001 > (wrap64 (x6 - x298001)))) x298000 x298001 x298002 x298003 x298004 x303000 x303001 x303002 x303003 x303004 x303005 x303006 x303007) else (laws_FnFaster.j3 k x5 (wrap64 (x7 + 1)) x29 x30 x31 false x298000 x298001 x298002 x298003 x298004 x303000 x303001 x303002 x303003 x303004 x303005 x303006 x303007)) else (laws_FnFaster.j3 k x5 (wrap64 (x7 + 1)) x29 x30 x31 false x298000 x298001 x298002 x298003 x298004 x303000 x303001 x303002 x303003 x303004 x303005 x303006 x303007)
def laws_FnFaster.j3 : Nat → List (S35) → Int → List (S35) → Int → Int → Bool → Int → Int → Int → Int → Int → Int → Int → Bool → Int → Int → Int → Bool → Bool → Option (Bool)
 | 0, _, _, _, _, _, _, _, _, _, _, _, _, _, _, _, _, _, _, _ => none
 | k + 1, x5, x7, x29, x30, x31, x80, x298000, x298001, x298002, x298003, x298004, x303000, x303001, x303002, x303003, x303004, x303005, x303006, x303007 => if x80 = true then (some false) else (laws_FnFaster.l0 k x5 x303001 x7 x29 x30 (wrap64 (x31 + 1)) x298000 x298001 x298002 x298003 x298004)
end
def laws_FnFaster.f (k : Nat) (l0 : List Int) : Option (Bool) := if (l0.length : Int) > 1048576 then (some true) else ((spec_Drives.f k l0).bind fun bt289 => ((impl_Drive.f k bt289.1 bt289.2.1 bt289.2.2.1 bt289.2.2.2.1 bt289.2.2.2.2.1 5 0 bt289.2.2.2.2.2).bind fun t298 => (if (t298.length : Int) = (bt289.2.2.2.2.2.length : Int) then (laws_FnFaster.l0 k t298 0 (wrap64 (bt289.2.2.1 + 1)) t298 (t298.length : Int) 0 bt289.1 bt289.2.1 bt289.2.2.1 bt289.2.2.2.1 bt289.2.2.2.2.1) else (some false))))
set_option maxHeartbeats 8000000 in
set_option maxRecDepth 100000 in
theorem laws_FnFaster.calls (k : Nat) (A0 : Option Addr) (c0 : Nat) (l0 : List Int) (r : Bool) (w : World) (hr0 : Kd.C (Kd.int .u8) w A0 l0.length l0) (hc0 : l0.length ≤ c0) (h : laws_FnFaster.f k l0 = some r) :
  Calls Try.prog 3 #[.slice A0 l0.length c0] w fun e w' => e = .returned (.bool r) ∧ Below w.heap.size w w' := by
 have hu24 := Try.underlying24
 have hu35 := Try.underlying35
 have HR0 := MK hr0
 have HC0 := MK hc0
 clear hr0 hc0
 have HB := MK (Below.refl w.heap.size w)
 have H : (if (l0.length : Int) > 1048576 then (some true) else ((spec_Drives.f k l0).bind fun bt289 => ((impl_Drive.f k bt289.1 bt289.2.1 bt289.2.2.1 bt289.2.2.2.1 bt289.2.2.2.2.1 5 0 bt289.2.2.2.2.2).bind fun t298 => (if (t298.length : Int) = (bt289.2.2.2.2.2.length : Int) then (laws_FnFaster.l0 k t298 0 (wrap64 (bt289.2.2.1 + 1)) t298 (t298.length : Int) 0 bt289.1 bt289.2.1 bt289.2.2.1 bt289.2.2.2.1 bt289.2.2.2.2.1) else (some false))))) = some r := h
 clear h
 by_cases c2 : (l0.length : Int) > 1048576
 ·rw [if_pos c2] at H
  have c2b0 : decide (1048576 < (l0.length : Int)) = true := decide_eq_true c2
  have c2b1 : decide (1048576 < l0.length) = true := decide_eq_true (by omega)
  clear c2
  obtain rfl := Option.some.inj H
  go_enter Try.func3, Try.ntmps3
  go_wp2
  go_ret
  exact ⟨by first | rfl | (simp [errW_none, errW_some] <;> rfl) | (simp [*, errW_none, errW_some] <;> rfl), by repeat (first | (with_reducible first | exact HB.out | apply lA | apply lN | apply lD) | exact HB.out)⟩
 ·rw [if_neg c2] at H
  have c2b0 : decide (1048576 < (l0.length : Int)) = false := decide_eq_false c2
  have c2b1 : decide (1048576 < l0.length) = false := decide_eq_false (by omega)
  clear c2
  replace H := Option.bind_eq_some_iff.mp H
  obtain ⟨⟨t289, t290, t291, t292, t293, t294⟩, A30, H⟩ := H
  replace H : ((impl_Drive.f k t289 t290 t291 t292 t293 5 0 t294).bind fun t298 => (if (t298.length : Int) = (t294.length : Int) then (laws_FnFaster.l0 k t298 0 (wrap64 (t291 + 1)) t298 (t298.length : Int) 0 t289 t290 t291 t292 t293) else (some false))) = some r := H
  have A3 := MK A30
  clear A30
  replace H := Option.bind_eq_some_iff.mp H
  obtain ⟨t298, A40, H⟩ := H
  replace H : (if (t298.length : Int) = (t294.length : Int) then (laws_FnFaster.l0 k t298 0 (wrap64 (t291 + 1)) t298 (t298.length : Int) 0 t289 t290 t291 t292 t293) else (some false)) = some r := H
  have A4 := MK A40
  clear A40
  have HC5 := MK H
  clear H
  go_enter Try.func3, Try.ntmps3
  go_upto_if 25 with (first | ((with_reducible refine gate_callee (f := 9) rfl ?_); refine goesL_ (some 15) rfl rfl Try.func9 (by kernel_rfl) rfl #[.slice A0 l0.length c0] rfl (by (try simp only [List.map_toArray, List.map_cons, List.map_nil]); first | done | rfl | (simp only [List.length_drop, List.length_take]; rfl)) ?_; (with_reducible refine (spec_Drives.calls k _ _ l0 t289 t290 t291 t292 t293 t294 _ ?side1 ?side2 A3.out).mono ?_); (case side1 => repeat (first | exact HR0.out | (with_reducible refine Kd.C_alloc ?_ _) | (with_reducible refine Kd.C_drewN ?_ _) | (with_reducible refine Kd.C_drew ?_))); (case side2 => exact HC0.out); rintro e w6 ⟨v295, rfl, ho0, hb⟩; refine ⟨_, rfl, ?_⟩; have n0_ := MK (Kd.R_lower ho0 (below_size (by repeat (first | (with_reducible first | exact HB.out | apply lA | apply lN | apply lD) | exact HB.out)))); have n1_ := MK (below_step (by repeat (first | (with_reducible first | exact HB.out | apply lA | apply lN | apply lD) | exact HB.out)) hb); clear HB; have HO296 := n0_; have HB := n1_; clear n0_ n1_; (try clear hb); (try clear hb2); (try clear hk); (try clear hi); (try clear ho0)) | ((with_reducible refine gate_dst (N := 3) rfl ?_); refine box_event ?hg (N := 3) ?hd (cs := #[.int .i64 0, .int .i64 0, .int .i64 0, .int .i64 0, .int .i64 0]) (t := 24) ?hr ?_; (case hd => rfl); (case hg => rfl); (case hr => first | (go_simp; done) | (go_simp; rfl)); intro gb297 hg w7 hbox hb; have n0_ := MK (Kd.R_below (by (with_reducible repeat (first | apply Kd.R_alloc | apply Kd.R_drewN | apply Kd.R_drew)); exact HO296.out) hb); have n1_ := MK (below_step (by repeat (first | (with_reducible first | exact HB.out | apply lA | apply lN | apply lD) | exact HB.out)) hb); have n2_ := MK (hbox); have n3_ := MK ((by rw [hg]; exact (below_size (by repeat (first | (with_reducible first | exact HB.out | apply lA | apply lN | apply lD) | exact HB.out))) : w.heap.size ≤ gb297)); have n4_ := MK ((by rw [hg]; exact (below_size (by repeat (first | (with_reducible first | exact HB.out | apply lA | apply lN | apply lD) | exact HB.out))) : w.heap.size ≤ gb297)); clear HO296; clear HB; have HO296 := n0_; have HB := n1_; have BK297 := n2_; have GW297 := n3_; have GE297 := n4_; clear n0_ n1_ n2_ n3_ n4_; clear hb hbox hg; obtain ⟨hcz8_0, hcz8_1, hcz8_2, hcz8_3, hcz8_4⟩ := bc5 BK297.out; obtain ⟨hfz8_0, hfz8_1, hfz8_2, hfz8_3, hfz8_4⟩ := bf5 BK297.out; obtain ⟨Ao9, co9, eo9⟩ := Kd.R_slice HO296.out; subst eo9) | ((with_reducible refine gate_callee (f := 10) rfl ?_); refine goesL_ (some 20) rfl rfl Try.func10 (by kernel_rfl) rfl #[.agg #[.int .i64 t289, .int .i64 t290, .int .i64 t291, .int .i64 t292, .int .i64 t293], .int .i64 5, .int .i64 0, .slice Ao9 t294.length co9] rfl (by (try simp only [List.map_toArray, List.map_cons, List.map_nil]); first | done | rfl | (simp only [List.length_drop, List.length_take]; rfl)) ?_; (with_reducible refine (impl_Drive.calls k t289 t290 t291 t292 t293 5 0 _ _ t294 t298 _ ?side1 ?side2 A4.out).mono ?_); (case side1 => refine (Kd.R_reads' (e := 39) (base := w.heap.size) (ok := fun k_ => True) (n := t294.length) (c := co9) ?_).2.2; exact (by (with_reducible repeat (first | apply Kd.R_alloc | apply Kd.R_drewN | apply Kd.R_drew)); exact (Kd.R_mono (Kd.R_far (p := ⟨gb297, 4, none⟩) (Kd.R_far (p := ⟨gb297, 3, none⟩) (Kd.R_far (p := ⟨gb297, 2, none⟩) (Kd.R_far (p := ⟨gb297, 1, none⟩) (Kd.R_far (p := ⟨gb297, 0, none⟩) (Kd.R_types HO296.out BK297.out (by decide)) (fun _ hk => hk.2) (.int .i64 t289)) (fun _ hk => hk.2) (.int .i64 t290)) (fun _ hk => hk.2) (.int .i64 t291)) (fun _ hk => hk.2) (.int .i64 t292)) (fun _ hk => hk.2) (.int .i64 t293)) (fun _ h_ => h_.1)))); (case side2 => exact (Kd.R_reads' HO296.out).2.1); rintro e w10 ⟨v299, rfl, ho0, hb⟩; refine ⟨_, rfl, ?_⟩; have n0_ := MK (Kd.R_below (by (with_reducible repeat (first | apply Kd.R_alloc | apply Kd.R_drewN | apply Kd.R_drew)); exact (Kd.R_mono (Kd.R_far (p := ⟨gb297, 4, none⟩) (Kd.R_far (p := ⟨gb297, 3, none⟩) (Kd.R_far (p := ⟨gb297, 2, none⟩) (Kd.R_far (p := ⟨gb297, 1, none⟩) (Kd.R_far (p := ⟨gb297, 0, none⟩) (Kd.R_types HO296.out BK297.out (by decide)) (fun _ hk => hk.2) (.int .i64 t289)) (fun _ hk => hk.2) (.int .i64 t290)) (fun _ hk => hk.2) (.int .i64 t291)) (fun _ hk => hk.2) (.int .i64 t292)) (fun _ hk => hk.2) (.int .i64 t293)) (fun _ h_ => h_.1))) hb); have n1_ := MK (Kd.R_lower ho0 (below_size (by repeat (first | (with_reducible first | exact HB.out | apply lA | apply lN | apply lD | refine lS ?_ GE297.out) | exact HB.out)))); have n2_ := MK (blk_below (g := gb297) (o := .cells #[.int .i64 t289, .int .i64 t290, .int .i64 t291, .int .i64 t292, .int .i64 t293] 24 (0, 0)) (by (with_reducible repeat (first | refine bN ?_ _ | refine bD ?_ | refine bA ?_ _)); refine blk_put (cs := #[.int .i64 t289, .int .i64 t290, .int .i64 t291, .int .i64 t292, .int .i64 0]) ?_ 4 _ rfl; (with_reducible repeat (first | refine bN ?_ _ | refine bD ?_ | refine bA ?_ _)); refine blk_put (cs := #[.int .i64 t289, .int .i64 t290, .int .i64 t291, .int .i64 0, .int .i64 0]) ?_ 3 _ rfl; (with_reducible repeat (first | refine bN ?_ _ | refine bD ?_ | refine bA ?_ _)); refine blk_put (cs := #[.int .i64 t289, .int .i64 t290, .int .i64 0, .int .i64 0, .int .i64 0]) ?_ 2 _ rfl; (with_reducible repeat (first | refine bN ?_ _ | refine bD ?_ | refine bA ?_ _)); refine blk_put (cs := #[.int .i64 t289, .int .i64 0, .int .i64 0, .int .i64 0, .int .i64 0]) ?_ 1 _ rfl; (with_reducible repeat (first | refine bN ?_ _ | refine bD ?_ | refine bA ?_ _)); refine blk_put (cs := #[.int .i64 0, .int .i64 0, .int .i64 0, .int .i64 0, .int .i64 0]) ?_ 0 _ rfl; (with_reducible repeat (first | refine bN ?_ _ | refine bD ?_ | refine bA ?_ _)); exact BK297.out) hb); have n3_ := MK (below_step (by repeat (first | (with_reducible first | exact HB.out | apply lA | apply lN | apply lD | refine lS ?_ GE297.out) | exact HB.out)) hb); clear HO296; clear BK297; clear HB; have HO296 := n0_; have HO300 := n1_; have BK297 := n2_; have HB := n3_; clear n0_ n1_ n2_ n3_; (try clear hb); (try clear hb2); (try clear hk); (try clear hi); (try clear ho0); obtain ⟨Ao11, co11, eo11⟩ := Kd.R_slice HO300.out; subst eo11))
  (try simp only [Act.put, List.setIfInBounds_toArray, List.set_cons_zero, List.set_cons_succ])
  have H := HC5.out
  clear HC5
  by_cases c12 : (t298.length : Int) = (t294.length : Int)
  ·rw [if_pos c12] at H
   have c12b0 : ((t298.length : Int) == (t294.length : Int)) = true := beq_iff_eq.mpr c12
   have c12b1 : ((t298.length : Int) != (t294.length : Int)) = false := bne_eq_false_iff_eq.mpr c12
   have c12b2 : (t298.length == t294.length) = true := by first | simpa using c12 | (simp at c12 ⊢; omega)
   clear c12
   (first | rw [c12b0] | (simp only [i64_w, i32_w]; rw [c12b0]) | rw [c12b1] | skip)
   have H' := MK H
   clear H
   obtain ⟨hcz13_0, hcz13_1, hcz13_2, hcz13_3, hcz13_4⟩ := bc5 BK297.out
   obtain ⟨hfz13_0, hfz13_1, hfz13_2, hfz13_3, hfz13_4⟩ := bf5 BK297.out
   go_wp2
   go_loopg [6, 7, 31] k (fun kq v6 v7 v31 w' => ∃ (x6_1 : Int) (x7_1 : Int) (x31_1 : Int), v6 = .int .i64 x6_1 ∧ v7 = .int .i64 x7_1 ∧ v31 = .int .i64 x31_1 ∧ Aside0 (laws_FnFaster.l0 kq t298 x6_1 x7_1 t298 (t298.length : Int) x31_1 t289 t290 t291 t292 t293 = some r) ∧ Aside0 (kq ≤ k) ∧ Aside0 (Kd.R k35 35 w' w.heap.size (fun _ => True) (.slice Ao11 t298.length co11) t298) ∧ Aside0 (Kd.R k35 35 w' w.heap.size (fun _ => True) (.slice Ao11 t298.length co11) t298) ∧ Aside0 (w'.heap[gb297]? = some (.cells #[.int .i64 t289, .int .i64 t290, .int .i64 t291, .int .i64 t292, .int .i64 t293] 24 (0, 0))) ∧ Aside0 (Below w.heap.size w w'))
   case atStart => exact ⟨(0), (wrap64 (t291 + 1)), (0), (by first | rfl | (simp; done) | (simp [*]; done)), (by first | rfl | (simp; done) | (simp [*]; done)), (by first | rfl | (simp; done) | (simp [*]; done)), H', ⟨Nat.le_refl _⟩, ⟨by (with_reducible repeat (first | apply Kd.R_alloc | apply Kd.R_drewN | apply Kd.R_drew)); exact HO300.out⟩, ⟨by (with_reducible repeat (first | apply Kd.R_alloc | apply Kd.R_drewN | apply Kd.R_drew)); exact HO300.out⟩, ⟨by (with_reducible repeat (first | refine bN ?_ _ | refine bD ?_ | refine bA ?_ _)); exact BK297.out⟩, ⟨by repeat (first | (with_reducible first | exact HB.out | apply lA | apply lN | apply lD | refine lS ?_ GE297.out) | exact HB.out)⟩⟩
   case round =>
    clear H'
    (try clear c2); (try clear c12); (try clear c12b0); (try clear c12b1); (try clear c12b2); (try clear hcz13_0); (try clear hcz13_1); (try clear hcz13_2); (try clear hcz13_3); (try clear hcz13_4); (try clear hfz13_0); (try clear hfz13_1); (try clear hfz13_2); (try clear hfz13_3); (try clear hfz13_4)
    obtain ⟨x6_1, x7_1, x31_1, rfl, rfl, rfl, HA, HK1, HO_5, HO_29, BK297, HB⟩ := hrel
    cases gk with
    | zero => exact absurd HA.out (by simp [laws_FnFaster.l0])
    | succ k1 =>
     have H := HA.out
     clear HA
     simp only [laws_FnFaster.l0] at H
     by_cases c14 : x31_1 < (t298.length : Int)
     ·rw [if_pos c14] at H
      have c14b0 : decide (x31_1 < (t298.length : Int)) = true := decide_eq_true c14
      clear c14
      by_cases c15 : 0 ≤ x31_1
      ·rw [if_pos c15] at H
       have c15b0 : decide (0 ≤ x31_1) = true := decide_eq_true c15
       clear c15
       by_cases c16 : x31_1 < (t298.length : Int)
       ·rw [if_pos c16] at H
        have c16b0 : decide (x31_1 < (t298.length : Int)) = true := decide_eq_true c16
        clear c16
        have HC17 := MK H
        clear H
        have p301 : 0 ≤ (x31_1 : Int) := of_decide_eq_true (by first | (with_reducible assumption) | assumption)
        have q301 : x31_1 < (t298.length : Int) := of_decide_eq_true (by first | (with_reducible assumption) | assumption)
        obtain ⟨ad301, e301, hx301_0, hx301_1, hx301_2, hx301_3, hx301_4, hx301_5, hx301_6, hx301_7⟩ := at_T35 (Kd.R_reads' HO_29.out).2.2 x31_1 p301 q301
        cases e301
        replace p301 := eq_true p301
        replace q301 := eq_true q301
        go_upto_if 42 with (first | ((with_reducible refine gate_dst (N := 9) rfl ?_); refine box_event ?hg (N := 9) ?hd (cs := #[.int .i64 0, .int .i64 0, .bool false, .int .i64 0, .int .i64 0, .int .i64 0, .bool false, .bool false]) (t := 35) ?hr ?_; (case hd => rfl); (case hg => rfl); (case hr => first | (go_simp; done) | (go_simp; rfl)); intro gb302 hg w18 hbox hb; have n0_ := MK (Kd.R_below (Kd.R_elderB (by (with_reducible repeat (first | apply Kd.R_alloc | apply Kd.R_drewN | apply Kd.R_drew)); exact HO_5.out) gb302 (Nat.le_of_eq hg.symm)) hb); have n1_ := MK (Kd.R_below (Kd.R_elderB (by (with_reducible repeat (first | apply Kd.R_alloc | apply Kd.R_drewN | apply Kd.R_drew)); exact HO_29.out) gb302 (Nat.le_of_eq hg.symm)) hb); have n2_ := MK (blk_below (by (with_reducible repeat (first | refine bN ?_ _ | refine bD ?_ | refine bA ?_ _)); exact BK297.out) hb); have n3_ := MK (below_step (by repeat (first | (with_reducible first | exact HB.out | apply lA | apply lN | apply lD | refine lS ?_ GE297.out) | exact HB.out)) hb); have n4_ := MK (hbox); have n5_ := MK ((by rw [hg]; exact (below_size (by repeat (first | (with_reducible first | exact HB.out | apply lA | apply lN | apply lD | refine lS ?_ GE297.out) | exact HB.out))) : w.heap.size ≤ gb302)); have n6_ := MK ((by rw [hg]; exact (below_size (by repeat (first | (with_reducible first | exact HB.out | apply lA | apply lN | apply lD | refine lS ?_ GE297.out) | exact HB.out))) : w.heap.size ≤ gb302)); have n7_ := MK ((by rw [hg]; exact Nat.ne_of_lt (blk_lt (by (with_reducible repeat (first | refine bN ?_ _ | refine bD ?_ | refine bA ?_ _)); exact BK297.out)) : gb297 ≠ gb302)); have n8_ := MK ((by rw [hg]; exact Nat.ne_of_gt (blk_lt (by (with_reducible repeat (first | refine bN ?_ _ | refine bD ?_ | refine bA ?_ _)); exact BK297.out)) : gb302 ≠ gb297)); clear HO_5; clear HO_29; clear BK297; clear HB; have HO_5 := n0_; have HO_29 := n1_; have BK297 := n2_; have HB := n3_; have BK302 := n4_; have GW302 := n5_; have GE302 := n6_; have NB297_302 := n7_; have NB302_297 := n8_; clear n0_ n1_ n2_ n3_ n4_ n5_ n6_ n7_ n8_; clear hb hbox hg; have hnb19 := NB302_297.out; have hnc19 := NB297_302.out; obtain ⟨hcz20_0, hcz20_1, hcz20_2, hcz20_3, hcz20_4, hcz20_5, hcz20_6, hcz20_7⟩ := bc8 BK302.out; obtain ⟨hfz20_0, hfz20_1, hfz20_2, hfz20_3, hfz20_4, hfz20_5, hfz20_6, hfz20_7⟩ := bf8 BK302.out; obtain ⟨hcz21_0, hcz21_1, hcz21_2, hcz21_3, hcz21_4⟩ := bc5 BK297.out; obtain ⟨hfz21_0, hfz21_1, hfz21_2, hfz21_3, hfz21_4⟩ := bf5 BK297.out))
        (try simp only [Act.put, List.setIfInBounds_toArray, List.set_cons_zero, List.set_cons_succ])
        have H := HC17.out
        clear HC17
        by_cases c22 : ((rd_T35 t298 x31_1).f1) > (wrap64 (x6_1 + t292))
        ·rw [if_pos c22] at H
         have c22b0 : decide ((wrap64 (x6_1 + t292)) < ((rd_T35 t298 x31_1).f1)) = true := decide_eq_true c22
         clear c22
         (first | rw [c22b0] | (simp only [i64_w, i32_w]; rw [c22b0]) | skip)
         obtain rfl := Option.some.inj H
         go_wp2
         go_ret
         exact ⟨by first | rfl | (simp [errW_none, errW_some] <;> rfl) | (simp [*, errW_none, errW_some] <;> rfl), by repeat (first | (with_reducible first | exact HB.out | apply lA | apply lN | apply lD | refine lS ?_ GE297.out | refine lS ?_ GE302.out) | exact HB.out)⟩
        ·rw [if_neg c22] at H
         have c22b0 : decide ((wrap64 (x6_1 + t292)) < ((rd_T35 t298 x31_1).f1)) = false := decide_eq_false c22
         clear c22
         (first | rw [c22b0] | (simp only [i64_w, i32_w]; rw [c22b0]) | skip)
         have HC23 := MK H
         clear H
         have hnb24 := NB302_297.out
         have hnc24 := NB297_302.out
         obtain ⟨hcz25_0, hcz25_1, hcz25_2, hcz25_3, hcz25_4, hcz25_5, hcz25_6, hcz25_7⟩ := bc8 BK302.out
         obtain ⟨hfz25_0, hfz25_1, hfz25_2, hfz25_3, hfz25_4, hfz25_5, hfz25_6, hfz25_7⟩ := bf8 BK302.out
         go_upto_if 47 with (fail)
         have H := HC23.out
         clear HC23
         by_cases c26 : ((rd_T35 t298 x31_1).f2.f1.f0) = 3
         ·rw [if_pos c26] at H
          have c26b0 : (((rd_T35 t298 x31_1).f2.f1.f0) == 3) = true := beq_iff_eq.mpr c26
          have c26b1 : (((rd_T35 t298 x31_1).f2.f1.f0) != 3) = false := bne_eq_false_iff_eq.mpr c26
          clear c26
          (first | rw [c26b0] | (simp only [i64_w, i32_w]; rw [c26b0]) | rw [c26b1] | skip)
          have HC27 := MK H
          clear H
          go_upto_region 15 with (fail)
          go_cut [60] (fun v60 wc => ∃ (kq : Nat) (x60_26 : Bool), v60 = .bool x60_26 ∧ Aside0 (laws_FnFaster.j1 kq t298 x6_1 x7_1 t298 (t298.length : Int) x31_1 x60_26 t289 t290 t291 t292 t293 ((rd_T35 t298 x31_1).f0) ((rd_T35 t298 x31_1).f1) ((rd_T35 t298 x31_1).f2.f0) ((rd_T35 t298 x31_1).f2.f1.f0) ((rd_T35 t298 x31_1).f2.f1.f1) ((rd_T35 t298 x31_1).f2.f2) ((rd_T35 t298 x31_1).f2.f3) ((rd_T35 t298 x31_1).f2.f4) = some r) ∧ Aside0 (kq ≤ k1) ∧ Aside0 (Kd.R k35 35 wc w.heap.size (fun k_ => k_ ≠ gb302) (.slice (some ad301) t298.length co11) t298) ∧ Aside0 (Kd.R k35 35 wc w.heap.size (fun k_ => k_ ≠ gb302) (.slice (some ad301) t298.length co11) t298) ∧ Aside0 (wc.heap[gb297]? = some (.cells #[.int .i64 t289, .int .i64 t290, .int .i64 t291, .int .i64 t292, .int .i64 t293] 24 (0, 0))) ∧ Aside0 (wc.heap[gb302]? = some (.cells #[.int .i64 ((rd_T35 t298 x31_1).f0), .int .i64 ((rd_T35 t298 x31_1).f1), .bool ((rd_T35 t298 x31_1).f2.f0), .int .i64 ((rd_T35 t298 x31_1).f2.f1.f0), .int .i64 ((rd_T35 t298 x31_1).f2.f1.f1), .int .i64 ((rd_T35 t298 x31_1).f2.f2), .bool ((rd_T35 t298 x31_1).f2.f3), .bool ((rd_T35 t298 x31_1).f2.f4)] 35 (0, 0))) ∧ Aside0 (Below w.heap.size w wc))
          case first =>
           have H := HC27.out
           clear HC27
           by_cases c28 : x31_1 > 0
           ·rw [if_pos c28] at H
            have c28b0 : decide (0 < x31_1) = true := decide_eq_true c28
            clear c28
            (first | rw [c28b0] | (simp only [i64_w, i32_w]; rw [c28b0]) | skip)
            obtain ⟨ji29, hji29⟩ : ∃ j_ : Int, (wrap64 (x31_1 - 1)) = j_ := ⟨_, rfl⟩
            replace H : (if 0 ≤ (ji29) then (if (ji29) < (t298.length : Int) then (laws_FnFaster.j1 k1 t298 x6_1 x7_1 t298 (t298.length : Int) x31_1 (((rd_T35 t298 (ji29)).f2.f1.f0) != 3) t289 t290 t291 t292 t293 ((rd_T35 t298 x31_1).f0) ((rd_T35 t298 x31_1).f1) ((rd_T35 t298 x31_1).f2.f0) ((rd_T35 t298 x31_1).f2.f1.f0) ((rd_T35 t298 x31_1).f2.f1.f1) ((rd_T35 t298 x31_1).f2.f2) ((rd_T35 t298 x31_1).f2.f3) ((rd_T35 t298 x31_1).f2.f4)) else (none)) else (none)) = some r := by first | (rw [hji29] at H; exact H) | (simp only [hji29] at H ⊢; exact H)
            have hji29w : (IntKind.i64.wrap (x31_1 - 1)) = ji29 := (i64_w _).trans hji29
            by_cases c30 : 0 ≤ (ji29)
            ·rw [if_pos c30] at H
             have c30b0 : decide (0 ≤ (ji29)) = true := decide_eq_true c30
             clear c30
             by_cases c31 : (ji29) < (t298.length : Int)
             ·rw [if_pos c31] at H
              have c31b0 : decide ((ji29) < (t298.length : Int)) = true := decide_eq_true c31
              clear c31
              have H' := MK H
              clear H
              have p303 : 0 ≤ ((ji29) : Int) := of_decide_eq_true (by first | (with_reducible assumption) | assumption)
              have q303 : (ji29) < (t298.length : Int) := of_decide_eq_true (by first | (with_reducible assumption) | assumption)
              obtain ⟨ad303, e303, hx303_0, hx303_1, hx303_2, hx303_3, hx303_4, hx303_5, hx303_6, hx303_7⟩ := at_T35 (Kd.R_reads' HO_5.out).2.2 (ji29) p303 q303
              obtain rfl : ad301 = ad303 := (by injection e303)
              have hn303_0 : ad301.block ≠ gb302 := Kd.own_blk (Kd.R_away HO_5.out (fun _ hk => hk.2))
              have hn303_1 : ad301.block ≠ gb302 := Kd.own_blk (Kd.R_away HO_5.out (fun _ hk => hk.2))
              have hn303_2 : ad301.block ≠ gb302 := Kd.own_blk (Kd.R_away HO_5.out (fun _ hk => hk.2))
              have hn303_3 : ad301.block ≠ gb302 := Kd.own_blk (Kd.R_away HO_5.out (fun _ hk => hk.2))
              have hn303_4 : ad301.block ≠ gb302 := Kd.own_blk (Kd.R_away HO_5.out (fun _ hk => hk.2))
              have hn303_5 : ad301.block ≠ gb302 := Kd.own_blk (Kd.R_away HO_5.out (fun _ hk => hk.2))
              have hn303_6 : ad301.block ≠ gb302 := Kd.own_blk (Kd.R_away HO_5.out (fun _ hk => hk.2))
              have hn303_7 : ad301.block ≠ gb302 := Kd.own_blk (Kd.R_away HO_5.out (fun _ hk => hk.2))
              replace hx303_0 := (cell_far (p := ⟨gb302, 0, none⟩) (by first | (rw [add_block]; exact hn303_0) | (show (Addr.add _ _).block ≠ _; rw [add_block]; exact hn303_0) | exact hn303_0) (.int .i64 ((rd_T35 t298 x31_1).f0))).trans hx303_0
              replace hx303_1 := (cell_far (p := ⟨gb302, 0, none⟩) (by first | (rw [add_block]; exact hn303_0) | (show (Addr.add _ _).block ≠ _; rw [add_block]; exact hn303_0) | exact hn303_0) (.int .i64 ((rd_T35 t298 x31_1).f0))).trans hx303_1
              replace hx303_2 := (cell_far (p := ⟨gb302, 0, none⟩) (by first | (rw [add_block]; exact hn303_0) | (show (Addr.add _ _).block ≠ _; rw [add_block]; exact hn303_0) | exact hn303_0) (.int .i64 ((rd_T35 t298 x31_1).f0))).trans hx303_2
              replace hx303_3 := (cell_far (p := ⟨gb302, 0, none⟩) (by first | (rw [add_block]; exact hn303_0) | (show (Addr.add _ _).block ≠ _; rw [add_block]; exact hn303_0) | exact hn303_0) (.int .i64 ((rd_T35 t298 x31_1).f0))).trans hx303_3
              replace hx303_4 := (cell_far (p := ⟨gb302, 0, none⟩) (by first | (rw [add_block]; exact hn303_0) | (show (Addr.add _ _).block ≠ _; rw [add_block]; exact hn303_0) | exact hn303_0) (.int .i64 ((rd_T35 t298 x31_1).f0))).trans hx303_4
              replace hx303_5 := (cell_far (p := ⟨gb302, 0, none⟩) (by first | (rw [add_block]; exact hn303_0) | (show (Addr.add _ _).block ≠ _; rw [add_block]; exact hn303_0) | exact hn303_0) (.int .i64 ((rd_T35 t298 x31_1).f0))).trans hx303_5
              replace hx303_6 := (cell_far (p := ⟨gb302, 0, none⟩) (by first | (rw [add_block]; exact hn303_0) | (show (Addr.add _ _).block ≠ _; rw [add_block]; exact hn303_0) | exact hn303_0) (.int .i64 ((rd_T35 t298 x31_1).f0))).trans hx303_6
              replace hx303_7 := (cell_far (p := ⟨gb302, 0, none⟩) (by first | (rw [add_block]; exact hn303_0) | (show (Addr.add _ _).block ≠ _; rw [add_block]; exact hn303_0) | exact hn303_0) (.int .i64 ((rd_T35 t298 x31_1).f0))).trans hx303_7
              replace hx303_0 := (cell_far (p := ⟨gb302, 1, none⟩) (by first | (rw [add_block]; exact hn303_1) | (show (Addr.add _ _).block ≠ _; rw [add_block]; exact hn303_1) | exact hn303_1) (.int .i64 ((rd_T35 t298 x31_1).f1))).trans hx303_0
              replace hx303_1 := (cell_far (p := ⟨gb302, 1, none⟩) (by first | (rw [add_block]; exact hn303_1) | (show (Addr.add _ _).block ≠ _; rw [add_block]; exact hn303_1) | exact hn303_1) (.int .i64 ((rd_T35 t298 x31_1).f1))).trans hx303_1
              replace hx303_2 := (cell_far (p := ⟨gb302, 1, none⟩) (by first | (rw [add_block]; exact hn303_1) | (show (Addr.add _ _).block ≠ _; rw [add_block]; exact hn303_1) | exact hn303_1) (.int .i64 ((rd_T35 t298 x31_1).f1))).trans hx303_2
              replace hx303_3 := (cell_far (p := ⟨gb302, 1, none⟩) (by first | (rw [add_block]; exact hn303_1) | (show (Addr.add _ _).block ≠ _; rw [add_block]; exact hn303_1) | exact hn303_1) (.int .i64 ((rd_T35 t298 x31_1).f1))).trans hx303_3
              replace hx303_4 := (cell_far (p := ⟨gb302, 1, none⟩) (by first | (rw [add_block]; exact hn303_1) | (show (Addr.add _ _).block ≠ _; rw [add_block]; exact hn303_1) | exact hn303_1) (.int .i64 ((rd_T35 t298 x31_1).f1))).trans hx303_4
              replace hx303_5 := (cell_far (p := ⟨gb302, 1, none⟩) (by first | (rw [add_block]; exact hn303_1) | (show (Addr.add _ _).block ≠ _; rw [add_block]; exact hn303_1) | exact hn303_1) (.int .i64 ((rd_T35 t298 x31_1).f1))).trans hx303_5
              replace hx303_6 := (cell_far (p := ⟨gb302, 1, none⟩) (by first | (rw [add_block]; exact hn303_1) | (show (Addr.add _ _).block ≠ _; rw [add_block]; exact hn303_1) | exact hn303_1) (.int .i64 ((rd_T35 t298 x31_1).f1))).trans hx303_6
              replace hx303_7 := (cell_far (p := ⟨gb302, 1, none⟩) (by first | (rw [add_block]; exact hn303_1) | (show (Addr.add _ _).block ≠ _; rw [add_block]; exact hn303_1) | exact hn303_1) (.int .i64 ((rd_T35 t298 x31_1).f1))).trans hx303_7
              replace hx303_0 := (cell_far (p := ⟨gb302, 2, none⟩) (by first | (rw [add_block]; exact hn303_2) | (show (Addr.add _ _).block ≠ _; rw [add_block]; exact hn303_2) | exact hn303_2) (.bool ((rd_T35 t298 x31_1).f2.f0))).trans hx303_0
              replace hx303_1 := (cell_far (p := ⟨gb302, 2, none⟩) (by first | (rw [add_block]; exact hn303_2) | (show (Addr.add _ _).block ≠ _; rw [add_block]; exact hn303_2) | exact hn303_2) (.bool ((rd_T35 t298 x31_1).f2.f0))).trans hx303_1
              replace hx303_2 := (cell_far (p := ⟨gb302, 2, none⟩) (by first | (rw [add_block]; exact hn303_2) | (show (Addr.add _ _).block ≠ _; rw [add_block]; exact hn303_2) | exact hn303_2) (.bool ((rd_T35 t298 x31_1).f2.f0))).trans hx303_2
              replace hx303_3 := (cell_far (p := ⟨gb302, 2, none⟩) (by first | (rw [add_block]; exact hn303_2) | (show (Addr.add _ _).block ≠ _; rw [add_block]; exact hn303_2) | exact hn303_2) (.bool ((rd_T35 t298 x31_1).f2.f0))).trans hx303_3
              replace hx303_4 := (cell_far (p := ⟨gb302, 2, none⟩) (by first | (rw [add_block]; exact hn303_2) | (show (Addr.add _ _).block ≠ _; rw [add_block]; exact hn303_2) | exact hn303_2) (.bool ((rd_T35 t298 x31_1).f2.f0))).trans hx303_4
              replace hx303_5 := (cell_far (p := ⟨gb302, 2, none⟩) (by first | (rw [add_block]; exact hn303_2) | (show (Addr.add _ _).block ≠ _; rw [add_block]; exact hn303_2) | exact hn303_2) (.bool ((rd_T35 t298 x31_1).f2.f0))).trans hx303_5
              replace hx303_6 := (cell_far (p := ⟨gb302, 2, none⟩) (by first | (rw [add_block]; exact hn303_2) | (show (Addr.add _ _).block ≠ _; rw [add_block]; exact hn303_2) | exact hn303_2) (.bool ((rd_T35 t298 x31_1).f2.f0))).trans hx303_6
              replace hx303_7 := (cell_far (p := ⟨gb302, 2, none⟩) (by first | (rw [add_block]; exact hn303_2) | (show (Addr.add _ _).block ≠ _; rw [add_block]; exact hn303_2) | exact hn303_2) (.bool ((rd_T35 t298 x31_1).f2.f0))).trans hx303_7
              replace hx303_0 := (cell_far (p := ⟨gb302, 3, none⟩) (by first | (rw [add_block]; exact hn303_3) | (show (Addr.add _ _).block ≠ _; rw [add_block]; exact hn303_3) | exact hn303_3) (.int .i64 ((rd_T35 t298 x31_1).f2.f1.f0))).trans hx303_0
              replace hx303_1 := (cell_far (p := ⟨gb302, 3, none⟩) (by first | (rw [add_block]; exact hn303_3) | (show (Addr.add _ _).block ≠ _; rw [add_block]; exact hn303_3) | exact hn303_3) (.int .i64 ((rd_T35 t298 x31_1).f2.f1.f0))).trans hx303_1
              replace hx303_2 := (cell_far (p := ⟨gb302, 3, none⟩) (by first | (rw [add_block]; exact hn303_3) | (show (Addr.add _ _).block ≠ _; rw [add_block]; exact hn303_3) | exact hn303_3) (.int .i64 ((rd_T35 t298 x31_1).f2.f1.f0))).trans hx303_2
              replace hx303_3 := (cell_far (p := ⟨gb302, 3, none⟩) (by first | (rw [add_block]; exact hn303_3) | (show (Addr.add _ _).block ≠ _; rw [add_block]; exact hn303_3) | exact hn303_3) (.int .i64 ((rd_T35 t298 x31_1).f2.f1.f0))).trans hx303_3
              replace hx303_4 := (cell_far (p := ⟨gb302, 3, none⟩) (by first | (rw [add_block]; exact hn303_3) | (show (Addr.add _ _).block ≠ _; rw [add_block]; exact hn303_3) | exact hn303_3) (.int .i64 ((rd_T35 t298 x31_1).f2.f1.f0))).trans hx303_4
              replace hx303_5 := (cell_far (p := ⟨gb302, 3, none⟩) (by first | (rw [add_block]; exact hn303_3) | (show (Addr.add _ _).block ≠ _; rw [add_block]; exact hn303_3) | exact hn303_3) (.int .i64 ((rd_T35 t298 x31_1).f2.f1.f0))).trans hx303_5
              replace hx303_6 := (cell_far (p := ⟨gb302, 3, none⟩) (by first | (rw [add_block]; exact hn303_3) | (show (Addr.add _ _).block ≠ _; rw [add_block]; exact hn303_3) | exact hn303_3) (.int .i64 ((rd_T35 t298 x31_1).f2.f1.f0))).trans hx303_6
              replace hx303_7 := (cell_far (p := ⟨gb302, 3, none⟩) (by first | (rw [add_block]; exact hn303_3) | (show (Addr.add _ _).block ≠ _; rw [add_block]; exact hn303_3) | exact hn303_3) (.int .i64 ((rd_T35 t298 x31_1).f2.f1.f0))).trans hx303_7
              replace hx303_0 := (cell_far (p := ⟨gb302, 4, none⟩) (by first | (rw [add_block]; exact hn303_4) | (show (Addr.add _ _).block ≠ _; rw [add_block]; exact hn303_4) | exact hn303_4) (.int .i64 ((rd_T35 t298 x31_1).f2.f1.f1))).trans hx303_0
              replace hx303_1 := (cell_far (p := ⟨gb302, 4, none⟩) (by first | (rw [add_block]; exact hn303_4) | (show (Addr.add _ _).block ≠ _; rw [add_block]; exact hn303_4) | exact hn303_4) (.int .i64 ((rd_T35 t298 x31_1).f2.f1.f1))).trans hx303_1
              replace hx303_2 := (cell_far (p := ⟨gb302, 4, none⟩) (by first | (rw [add_block]; exact hn303_4) | (show (Addr.add _ _).block ≠ _; rw [add_block]; exact hn303_4) | exact hn303_4) (.int .i64 ((rd_T35 t298 x31_1).f2.f1.f1))).trans hx303_2
              replace hx303_3 := (cell_far (p := ⟨gb302, 4, none⟩) (by first | (rw [add_block]; exact hn303_4) | (show (Addr.add _ _).block ≠ _; rw [add_block]; exact hn303_4) | exact hn303_4) (.int .i64 ((rd_T35 t298 x31_1).f2.f1.f1))).trans hx303_3
              replace hx303_4 := (cell_far (p := ⟨gb302, 4, none⟩) (by first | (rw [add_block]; exact hn303_4) | (show (Addr.add _ _).block ≠ _; rw [add_block]; exact hn303_4) | exact hn303_4) (.int .i64 ((rd_T35 t298 x31_1).f2.f1.f1))).trans hx303_4
              replace hx303_5 := (cell_far (p := ⟨gb302, 4, none⟩) (by first | (rw [add_block]; exact hn303_4) | (show (Addr.add _ _).block ≠ _; rw [add_block]; exact hn303_4) | exact hn303_4) (.int .i64 ((rd_T35 t298 x31_1).f2.f1.f1))).trans hx303_5
              replace hx303_6 := (cell_far (p := ⟨gb302, 4, none⟩) (by first | (rw [add_block]; exact hn303_4) | (show (Addr.add _ _).block ≠ _; rw [add_block]; exact hn303_4) | exact hn303_4) (.int .i64 ((rd_T35 t298 x31_1).f2.f1.f1))).trans hx303_6
              replace hx303_7 := (cell_far (p := ⟨gb302, 4, none⟩) (by first | (rw [add_block]; exact hn303_4) | (show (Addr.add _ _).block ≠ _; rw [add_block]; exact hn303_4) | exact hn303_4) (.int .i64 ((rd_T35 t298 x31_1).f2.f1.f1))).trans hx303_7
              replace hx303_0 := (cell_far (p := ⟨gb302, 5, none⟩) (by first | (rw [add_block]; exact hn303_5) | (show (Addr.add _ _).block ≠ _; rw [add_block]; exact hn303_5) | exact hn303_5) (.int .i64 ((rd_T35 t298 x31_1).f2.f2))).trans hx303_0
              replace hx303_1 := (cell_far (p := ⟨gb302, 5, none⟩) (by first | (rw [add_block]; exact hn303_5) | (show (Addr.add _ _).block ≠ _; rw [add_block]; exact hn303_5) | exact hn303_5) (.int .i64 ((rd_T35 t298 x31_1).f2.f2))).trans hx303_1
              replace hx303_2 := (cell_far (p := ⟨gb302, 5, none⟩) (by first | (rw [add_block]; exact hn303_5) | (show (Addr.add _ _).block ≠ _; rw [add_block]; exact hn303_5) | exact hn303_5) (.int .i64 ((rd_T35 t298 x31_1).f2.f2))).trans hx303_2
              replace hx303_3 := (cell_far (p := ⟨gb302, 5, none⟩) (by first | (rw [add_block]; exact hn303_5) | (show (Addr.add _ _).block ≠ _; rw [add_block]; exact hn303_5) | exact hn303_5) (.int .i64 ((rd_T35 t298 x31_1).f2.f2))).trans hx303_3
              replace hx303_4 := (cell_far (p := ⟨gb302, 5, none⟩) (by first | (rw [add_block]; exact hn303_5) | (show (Addr.add _ _).block ≠ _; rw [add_block]; exact hn303_5) | exact hn303_5) (.int .i64 ((rd_T35 t298 x31_1).f2.f2))).trans hx303_4
              replace hx303_5 := (cell_far (p := ⟨gb302, 5, none⟩) (by first | (rw [add_block]; exact hn303_5) | (show (Addr.add _ _).block ≠ _; rw [add_block]; exact hn303_5) | exact hn303_5) (.int .i64 ((rd_T35 t298 x31_1).f2.f2))).trans hx303_5
              replace hx303_6 := (cell_far (p := ⟨gb302, 5, none⟩) (by first | (rw [add_block]; exact hn303_5) | (show (Addr.add _ _).block ≠ _; rw [add_block]; exact hn303_5) | exact hn303_5) (.int .i64 ((rd_T35 t298 x31_1).f2.f2))).trans hx303_6
              replace hx303_7 := (cell_far (p := ⟨gb302, 5, none⟩) (by first | (rw [add_block]; exact hn303_5) | (show (Addr.add _ _).block ≠ _; rw [add_block]; exact hn303_5) | exact hn303_5) (.int .i64 ((rd_T35 t298 x31_1).f2.f2))).trans hx303_7
              replace hx303_0 := (cell_far (p := ⟨gb302, 6, none⟩) (by first | (rw [add_block]; exact hn303_6) | (show (Addr.add _ _).block ≠ _; rw [add_block]; exact hn303_6) | exact hn303_6) (.bool ((rd_T35 t298 x31_1).f2.f3))).trans hx303_0
              replace hx303_1 := (cell_far (p := ⟨gb302, 6, none⟩) (by first | (rw [add_block]; exact hn303_6) | (show (Addr.add _ _).block ≠ _; rw [add_block]; exact hn303_6) | exact hn303_6) (.bool ((rd_T35 t298 x31_1).f2.f3))).trans hx303_1
              replace hx303_2 := (cell_far (p := ⟨gb302, 6, none⟩) (by first | (rw [add_block]; exact hn303_6) | (show (Addr.add _ _).block ≠ _; rw [add_block]; exact hn303_6) | exact hn303_6) (.bool ((rd_T35 t298 x31_1).f2.f3))).trans hx303_2
              replace hx303_3 := (cell_far (p := ⟨gb302, 6, none⟩) (by first | (rw [add_block]; exact hn303_6) | (show (Addr.add _ _).block ≠ _; rw [add_block]; exact hn303_6) | exact hn303_6) (.bool ((rd_T35 t298 x31_1).f2.f3))).trans hx303_3
              replace hx303_4 := (cell_far (p := ⟨gb302, 6, none⟩) (by first | (rw [add_block]; exact hn303_6) | (show (Addr.add _ _).block ≠ _; rw [add_block]; exact hn303_6) | exact hn303_6) (.bool ((rd_T35 t298 x31_1).f2.f3))).trans hx303_4
              replace hx303_5 := (cell_far (p := ⟨gb302, 6, none⟩) (by first | (rw [add_block]; exact hn303_6) | (show (Addr.add _ _).block ≠ _; rw [add_block]; exact hn303_6) | exact hn303_6) (.bool ((rd_T35 t298 x31_1).f2.f3))).trans hx303_5
              replace hx303_6 := (cell_far (p := ⟨gb302, 6, none⟩) (by first | (rw [add_block]; exact hn303_6) | (show (Addr.add _ _).block ≠ _; rw [add_block]; exact hn303_6) | exact hn303_6) (.bool ((rd_T35 t298 x31_1).f2.f3))).trans hx303_6
              replace hx303_7 := (cell_far (p := ⟨gb302, 6, none⟩) (by first | (rw [add_block]; exact hn303_6) | (show (Addr.add _ _).block ≠ _; rw [add_block]; exact hn303_6) | exact hn303_6) (.bool ((rd_T35 t298 x31_1).f2.f3))).trans hx303_7
              replace hx303_0 := (cell_far (p := ⟨gb302, 7, none⟩) (by first | (rw [add_block]; exact hn303_7) | (show (Addr.add _ _).block ≠ _; rw [add_block]; exact hn303_7) | exact hn303_7) (.bool ((rd_T35 t298 x31_1).f2.f4))).trans hx303_0
              replace hx303_1 := (cell_far (p := ⟨gb302, 7, none⟩) (by first | (rw [add_block]; exact hn303_7) | (show (Addr.add _ _).block ≠ _; rw [add_block]; exact hn303_7) | exact hn303_7) (.bool ((rd_T35 t298 x31_1).f2.f4))).trans hx303_1
              replace hx303_2 := (cell_far (p := ⟨gb302, 7, none⟩) (by first | (rw [add_block]; exact hn303_7) | (show (Addr.add _ _).block ≠ _; rw [add_block]; exact hn303_7) | exact hn303_7) (.bool ((rd_T35 t298 x31_1).f2.f4))).trans hx303_2
              replace hx303_3 := (cell_far (p := ⟨gb302, 7, none⟩) (by first | (rw [add_block]; exact hn303_7) | (show (Addr.add _ _).block ≠ _; rw [add_block]; exact hn303_7) | exact hn303_7) (.bool ((rd_T35 t298 x31_1).f2.f4))).trans hx303_3
              replace hx303_4 := (cell_far (p := ⟨gb302, 7, none⟩) (by first | (rw [add_block]; exact hn303_7) | (show (Addr.add _ _).block ≠ _; rw [add_block]; exact hn303_7) | exact hn303_7) (.bool ((rd_T35 t298 x31_1).f2.f4))).trans hx303_4
              replace hx303_5 := (cell_far (p := ⟨gb302, 7, none⟩) (by first | (rw [add_block]; exact hn303_7) | (show (Addr.add _ _).block ≠ _; rw [add_block]; exact hn303_7) | exact hn303_7) (.bool ((rd_T35 t298 x31_1).f2.f4))).trans hx303_5
              replace hx303_6 := (cell_far (p := ⟨gb302, 7, none⟩) (by first | (rw [add_block]; exact hn303_7) | (show (Addr.add _ _).block ≠ _; rw [add_block]; exact hn303_7) | exact hn303_7) (.bool ((rd_T35 t298 x31_1).f2.f4))).trans hx303_6
              replace hx303_7 := (cell_far (p := ⟨gb302, 7, none⟩) (by first | (rw [add_block]; exact hn303_7) | (show (Addr.add _ _).block ≠ _; rw [add_block]; exact hn303_7) | exact hn303_7) (.bool ((rd_T35 t298 x31_1).f2.f4))).trans hx303_7
              clear hn303_0
              clear hn303_1
              clear hn303_2
              clear hn303_3
              clear hn303_4
              clear hn303_5
              clear hn303_6
              clear hn303_7
              replace p303 := eq_true p303
              replace q303 := eq_true q303
              go_wp2
              go_meet
              case rel => exact ⟨_, ((((rd_T35 t298 (ji29)).f2.f1.f0) != 3)), (by first | rfl | (simp; done) | (simp only [← hji29] <;> (first | rfl | simp)) | (simp [*]; done)), H', ⟨by have := HK1.out; first | omega | exact Nat.le_refl _⟩, ⟨by (with_reducible repeat (first | apply Kd.R_alloc | apply Kd.R_drewN | apply Kd.R_drew)); exact Kd.R_mono (Kd.R_far (p := ⟨gb302, 7, none⟩) (Kd.R_far (p := ⟨gb302, 6, none⟩) (Kd.R_far (p := ⟨gb302, 5, none⟩) (Kd.R_far (p := ⟨gb302, 4, none⟩) (Kd.R_far (p := ⟨gb302, 3, none⟩) (Kd.R_far (p := ⟨gb302, 2, none⟩) (Kd.R_far (p := ⟨gb302, 1, none⟩) (Kd.R_far (p := ⟨gb302, 0, none⟩) (Kd.R_mono HO_5.out (fun k_ hk => (⟨hk, hk.2⟩ : _ ∧ k_ ≠ gb302))) (fun _ hk => hk.2) (.int .i64 ((rd_T35 t298 x31_1).f0))) (fun _ hk => hk.2) (.int .i64 ((rd_T35 t298 x31_1).f1))) (fun _ hk => hk.2) (.bool ((rd_T35 t298 x31_1).f2.f0))) (fun _ hk => hk.2) (.int .i64 ((rd_T35 t298 x31_1).f2.f1.f0))) (fun _ hk => hk.2) (.int .i64 ((rd_T35 t298 x31_1).f2.f1.f1))) (fun _ hk => hk.2) (.int .i64 ((rd_T35 t298 x31_1).f2.f2))) (fun _ hk => hk.2) (.bool ((rd_T35 t298 x31_1).f2.f3))) (fun _ hk => hk.2) (.bool ((rd_T35 t298 x31_1).f2.f4))) (fun _ hk => hk.1.2)⟩, ⟨by (with_reducible repeat (first | apply Kd.R_alloc | apply Kd.R_drewN | apply Kd.R_drew)); exact Kd.R_mono (Kd.R_far (p := ⟨gb302, 7, none⟩) (Kd.R_far (p := ⟨gb302, 6, none⟩) (Kd.R_far (p := ⟨gb302, 5, none⟩) (Kd.R_far (p := ⟨gb302, 4, none⟩) (Kd.R_far (p := ⟨gb302, 3, none⟩) (Kd.R_far (p := ⟨gb302, 2, none⟩) (Kd.R_far (p := ⟨gb302, 1, none⟩) (Kd.R_far (p := ⟨gb302, 0, none⟩) (Kd.R_mono HO_29.out (fun k_ hk => (⟨hk, hk.2⟩ : _ ∧ k_ ≠ gb302))) (fun _ hk => hk.2) (.int .i64 ((rd_T35 t298 x31_1).f0))) (fun _ hk => hk.2) (.int .i64 ((rd_T35 t298 x31_1).f1))) (fun _ hk => hk.2) (.bool ((rd_T35 t298 x31_1).f2.f0))) (fun _ hk => hk.2) (.int .i64 ((rd_T35 t298 x31_1).f2.f1.f0))) (fun _ hk => hk.2) (.int .i64 ((rd_T35 t298 x31_1).f2.f1.f1))) (fun _ hk => hk.2) (.int .i64 ((rd_T35 t298 x31_1).f2.f2))) (fun _ hk => hk.2) (.bool ((rd_T35 t298 x31_1).f2.f3))) (fun _ hk => hk.2) (.bool ((rd_T35 t298 x31_1).f2.f4))) (fun _ hk => hk.1.2)⟩, ⟨by (with_reducible repeat (first | refine bN ?_ _ | refine bD ?_ | refine bA ?_ _)); refine blk_far ?_ NB297_302.out _; (with_reducible repeat (first | refine bN ?_ _ | refine bD ?_ | refine bA ?_ _)); refine blk_far ?_ NB297_302.out _; (with_reducible repeat (first | refine bN ?_ _ | refine bD ?_ | refine bA ?_ _)); refine blk_far ?_ NB297_302.out _; (with_reducible repeat (first | refine bN ?_ _ | refine bD ?_ | refine bA ?_ _)); refine blk_far ?_ NB297_302.out _; (with_reducible repeat (first | refine bN ?_ _ | refine bD ?_ | refine bA ?_ _)); refine blk_far ?_ NB297_302.out _; (with_reducible repeat (first | refine bN ?_ _ | refine bD ?_ | refine bA ?_ _)); refine blk_far ?_ NB297_302.out _; (with_reducible repeat (first | refine bN ?_ _ | refine bD ?_ | refine bA ?_ _)); refine blk_far ?_ NB297_302.out _; (with_reducible repeat (first | refine bN ?_ _ | refine bD ?_ | refine bA ?_ _)); refine blk_far ?_ NB297_302.out _; (with_reducible repeat (first | refine bN ?_ _ | refine bD ?_ | refine bA ?_ _)); exact BK297.out⟩, ⟨by (with_reducible repeat (first | refine bN ?_ _ | refine bD ?_ | refine bA ?_ _)); refine blk_put (cs := #[.int .i64 ((rd_T35 t298 x31_1).f0), .int .i64 ((rd_T35 t298 x31_1).f1), .bool ((rd_T35 t298 x31_1).f2.f0), .int .i64 ((rd_T35 t298 x31_1).f2.f1.f0), .int .i64 ((rd_T35 t298 x31_1).f2.f1.f1), .int .i64 ((rd_T35 t298 x31_1).f2.f2), .bool ((rd_T35 t298 x31_1).f2.f3), .bool false]) ?_ 7 _ rfl; (with_reducible repeat (first | refine bN ?_ _ | refine bD ?_ | refine bA ?_ _)); refine blk_put (cs := #[.int .i64 ((rd_T35 t298 x31_1).f0), .int .i64 ((rd_T35 t298 x31_1).f1), .bool ((rd_T35 t298 x31_1).f2.f0), .int .i64 ((rd_T35 t298 x31_1).f2.f1.f0), .int .i64 ((rd_T35 t298 x31_1).f2.f1.f1), .int .i64 ((rd_T35 t298 x31_1).f2.f2), .bool false, .bool false]) ?_ 6 _ rfl; (with_reducible repeat (first | refine bN ?_ _ | refine bD ?_ | refine bA ?_ _)); refine blk_put (cs := #[.int .i64 ((rd_T35 t298 x31_1).f0), .int .i64 ((rd_T35 t298 x31_1).f1), .bool ((rd_T35 t298 x31_1).f2.f0), .int .i64 ((rd_T35 t298 x31_1).f2.f1.f0), .int .i64 ((rd_T35 t298 x31_1).f2.f1.f1), .int .i64 0, .bool false, .bool false]) ?_ 5 _ rfl; (with_reducible repeat (first | refine bN ?_ _ | refine bD ?_ | refine bA ?_ _)); refine blk_put (cs := #[.int .i64 ((rd_T35 t298 x31_1).f0), .int .i64 ((rd_T35 t298 x31_1).f1), .bool ((rd_T35 t298 x31_1).f2.f0), .int .i64 ((rd_T35 t298 x31_1).f2.f1.f0), .int .i64 0, .int .i64 0, .bool false, .bool false]) ?_ 4 _ rfl; (with_reducible repeat (first | refine bN ?_ _ | refine bD ?_ | refine bA ?_ _)); refine blk_put (cs := #[.int .i64 ((rd_T35 t298 x31_1).f0), .int .i64 ((rd_T35 t298 x31_1).f1), .bool ((rd_T35 t298 x31_1).f2.f0), .int .i64 0, .int .i64 0, .int .i64 0, .bool false, .bool false]) ?_ 3 _ rfl; (with_reducible repeat (first | refine bN ?_ _ | refine bD ?_ | refine bA ?_ _)); refine blk_put (cs := #[.int .i64 ((rd_T35 t298 x31_1).f0), .int .i64 ((rd_T35 t298 x31_1).f1), .bool false, .int .i64 0, .int .i64 0, .int .i64 0, .bool false, .bool false]) ?_ 2 _ rfl; (with_reducible repeat (first | refine bN ?_ _ | refine bD ?_ | refine bA ?_ _)); refine blk_put (cs := #[.int .i64 ((rd_T35 t298 x31_1).f0), .int .i64 0, .bool false, .int .i64 0, .int .i64 0, .int .i64 0, .bool false, .bool false]) ?_ 1 _ rfl; (with_reducible repeat (first | refine bN ?_ _ | refine bD ?_ | refine bA ?_ _)); refine blk_put (cs := #[.int .i64 0, .int .i64 0, .bool false, .int .i64 0, .int .i64 0, .int .i64 0, .bool false, .bool false]) ?_ 0 _ rfl; (with_reducible repeat (first | refine bN ?_ _ | refine bD ?_ | refine bA ?_ _)); exact BK302.out⟩, ⟨by repeat (first | (with_reducible first | exact HB.out | apply lA | apply lN | apply lD | refine lS ?_ GE297.out | refine lS ?_ GE302.out) | exact HB.out)⟩⟩
             ·rw [if_neg c31] at H
              exact absurd H (by simp)
            ·rw [if_neg c30] at H
             exact absurd H (by simp)
           ·rw [if_neg c28] at H
            have c28b0 : decide (0 < x31_1) = false := decide_eq_false c28
            clear c28
            (first | rw [c28b0] | (simp only [i64_w, i32_w]; rw [c28b0]) | skip)
            have H' := MK H
            clear H
            go_wp2
            go_meet
            case rel => exact ⟨_, (false), (by first | rfl | (simp; done) | (simp [*]; done)), H', ⟨by have := HK1.out; first | omega | exact Nat.le_refl _⟩, ⟨by (with_reducible repeat (first | apply Kd.R_alloc | apply Kd.R_drewN | apply Kd.R_drew)); exact Kd.R_mono (Kd.R_far (p := ⟨gb302, 7, none⟩) (Kd.R_far (p := ⟨gb302, 6, none⟩) (Kd.R_far (p := ⟨gb302, 5, none⟩) (Kd.R_far (p := ⟨gb302, 4, none⟩) (Kd.R_far (p := ⟨gb302, 3, none⟩) (Kd.R_far (p := ⟨gb302, 2, none⟩) (Kd.R_far (p := ⟨gb302, 1, none⟩) (Kd.R_far (p := ⟨gb302, 0, none⟩) (Kd.R_mono HO_5.out (fun k_ hk => (⟨hk, hk.2⟩ : _ ∧ k_ ≠ gb302))) (fun _ hk => hk.2) (.int .i64 ((rd_T35 t298 x31_1).f0))) (fun _ hk => hk.2) (.int .i64 ((rd_T35 t298 x31_1).f1))) (fun _ hk => hk.2) (.bool ((rd_T35 t298 x31_1).f2.f0))) (fun _ hk => hk.2) (.int .i64 ((rd_T35 t298 x31_1).f2.f1.f0))) (fun _ hk => hk.2) (.int .i64 ((rd_T35 t298 x31_1).f2.f1.f1))) (fun _ hk => hk.2) (.int .i64 ((rd_T35 t298 x31_1).f2.f2))) (fun _ hk => hk.2) (.bool ((rd_T35 t298 x31_1).f2.f3))) (fun _ hk => hk.2) (.bool ((rd_T35 t298 x31_1).f2.f4))) (fun _ hk => hk.1.2)⟩, ⟨by (with_reducible repeat (first | apply Kd.R_alloc | apply Kd.R_drewN | apply Kd.R_drew)); exact Kd.R_mono (Kd.R_far (p := ⟨gb302, 7, none⟩) (Kd.R_far (p := ⟨gb302, 6, none⟩) (Kd.R_far (p := ⟨gb302, 5, none⟩) (Kd.R_far (p := ⟨gb302, 4, none⟩) (Kd.R_far (p := ⟨gb302, 3, none⟩) (Kd.R_far (p := ⟨gb302, 2, none⟩) (Kd.R_far (p := ⟨gb302, 1, none⟩) (Kd.R_far (p := ⟨gb302, 0, none⟩) (Kd.R_mono HO_29.out (fun k_ hk => (⟨hk, hk.2⟩ : _ ∧ k_ ≠ gb302))) (fun _ hk => hk.2) (.int .i64 ((rd_T35 t298 x31_1).f0))) (fun _ hk => hk.2) (.int .i64 ((rd_T35 t298 x31_1).f1))) (fun _ hk => hk.2) (.bool ((rd_T35 t298 x31_1).f2.f0))) (fun _ hk => hk.2) (.int .i64 ((rd_T35 t298 x31_1).f2.f1.f0))) (fun _ hk => hk.2) (.int .i64 ((rd_T35 t298 x31_1).f2.f1.f1))) (fun _ hk => hk.2) (.int .i64 ((rd_T35 t298 x31_1).f2.f2))) (fun _ hk => hk.2) (.bool ((rd_T35 t298 x31_1).f2.f3))) (fun _ hk => hk.2) (.bool ((rd_T35 t298 x31_1).f2.f4))) (fun _ hk => hk.1.2)⟩, ⟨by (with_reducible repeat (first | refine bN ?_ _ | refine bD ?_ | refine bA ?_ _)); refine blk_far ?_ NB297_302.out _; (with_reducible repeat (first | refine bN ?_ _ | refine bD ?_ | refine bA ?_ _)); refine blk_far ?_ NB297_302.out _; (with_reducible repeat (first | refine bN ?_ _ | refine bD ?_ | refine bA ?_ _)); refine blk_far ?_ NB297_302.out _; (with_reducible repeat (first | refine bN ?_ _ | refine bD ?_ | refine bA ?_ _)); refine blk_far ?_ NB297_302.out _; (with_reducible repeat (first | refine bN ?_ _ | refine bD ?_ | refine bA ?_ _)); refine blk_far ?_ NB297_302.out _; (with_reducible repeat (first | refine bN ?_ _ | refine bD ?_ | refine bA ?_ _)); refine blk_far ?_ NB297_302.out _; (with_reducible repeat (first | refine bN ?_ _ | refine bD ?_ | refine bA ?_ _)); refine blk_far ?_ NB297_302.out _; (with_reducible repeat (first | refine bN ?_ _ | refine bD ?_ | refine bA ?_ _)); refine blk_far ?_ NB297_302.out _; (with_reducible repeat (first | refine bN ?_ _ | refine bD ?_ | refine bA ?_ _)); exact BK297.out⟩, ⟨by (with_reducible repeat (first | refine bN ?_ _ | refine bD ?_ | refine bA ?_ _)); refine blk_put (cs := #[.int .i64 ((rd_T35 t298 x31_1).f0), .int .i64 ((rd_T35 t298 x31_1).f1), .bool ((rd_T35 t298 x31_1).f2.f0), .int .i64 ((rd_T35 t298 x31_1).f2.f1.f0), .int .i64 ((rd_T35 t298 x31_1).f2.f1.f1), .int .i64 ((rd_T35 t298 x31_1).f2.f2), .bool ((rd_T35 t298 x31_1).f2.f3), .bool false]) ?_ 7 _ rfl; (with_reducible repeat (first | refine bN ?_ _ | refine bD ?_ | refine bA ?_ _)); refine blk_put (cs := #[.int .i64 ((rd_T35 t298 x31_1).f0), .int .i64 ((rd_T35 t298 x31_1).f1), .bool ((rd_T35 t298 x31_1).f2.f0), .int .i64 ((rd_T35 t298 x31_1).f2.f1.f0), .int .i64 ((rd_T35 t298 x31_1).f2.f1.f1), .int .i64 ((rd_T35 t298 x31_1).f2.f2), .bool false, .bool false]) ?_ 6 _ rfl; (with_reducible repeat (first | refine bN ?_ _ | refine bD ?_ | refine bA ?_ _)); refine blk_put (cs := #[.int .i64 ((rd_T35 t298 x31_1).f0), .int .i64 ((rd_T35 t298 x31_1).f1), .bool ((rd_T35 t298 x31_1).f2.f0), .int .i64 ((rd_T35 t298 x31_1).f2.f1.f0), .int .i64 ((rd_T35 t298 x31_1).f2.f1.f1), .int .i64 0, .bool false, .bool false]) ?_ 5 _ rfl; (with_reducible repeat (first | refine bN ?_ _ | refine bD ?_ | refine bA ?_ _)); refine blk_put (cs := #[.int .i64 ((rd_T35 t298 x31_1).f0), .int .i64 ((rd_T35 t298 x31_1).f1), .bool ((rd_T35 t298 x31_1).f2.f0), .int .i64 ((rd_T35 t298 x31_1).f2.f1.f0), .int .i64 0, .int .i64 0, .bool false, .bool false]) ?_ 4 _ rfl; (with_reducible repeat (first | refine bN ?_ _ | refine bD ?_ | refine bA ?_ _)); refine blk_put (cs := #[.int .i64 ((rd_T35 t298 x31_1).f0), .int .i64 ((rd_T35 t298 x31_1).f1), .bool ((rd_T35 t298 x31_1).f2.f0), .int .i64 0, .int .i64 0, .int .i64 0, .bool false, .bool false]) ?_ 3 _ rfl; (with_reducible repeat (first | refine bN ?_ _ | refine bD ?_ | refine bA ?_ _)); refine blk_put (cs := #[.int .i64 ((rd_T35 t298 x31_1).f0), .int .i64 ((rd_T35 t298 x31_1).f1), .bool false, .int .i64 0, .int .i64 0, .int .i64 0, .bool false, .bool false]) ?_ 2 _ rfl; (with_reducible repeat (first | refine bN ?_ _ | refine bD ?_ | refine bA ?_ _)); refine blk_put (cs := #[.int .i64 ((rd_T35 t298 x31_1).f0), .int .i64 0, .bool false, .int .i64 0, .int .i64 0, .int .i64 0, .bool false, .bool false]) ?_ 1 _ rfl; (with_reducible repeat (first | refine bN ?_ _ | refine bD ?_ | refine bA ?_ _)); refine blk_put (cs := #[.int .i64 0, .int .i64 0, .bool false, .int .i64 0, .int .i64 0, .int .i64 0, .bool false, .bool false]) ?_ 0 _ rfl; (with_reducible repeat (first | refine bN ?_ _ | refine bD ?_ | refine bA ?_ _)); exact BK302.out⟩, ⟨by repeat (first | (with_reducible first | exact HB.out | apply lA | apply lN | apply lD | refine lS ?_ GE297.out | refine lS ?_ GE302.out) | exact HB.out)⟩⟩
          case rest =>
           clear HC27
           (try clear c2); (try clear c12); (try clear c12b0); (try clear c12b1); (try clear c12b2); (try clear c14); (try clear c15); (try clear c16); (try clear c22); (try clear c26); (try clear c26b0); (try clear c26b1); (try clear hcz13_0); (try clear hcz13_1); (try clear hcz13_2); (try clear hcz13_3); (try clear hcz13_4); (try clear hfz13_0); (try clear hfz13_1); (try clear hfz13_2); (try clear hfz13_3); (try clear hfz13_4)
           obtain ⟨kq, x60_26, rfl, HA, HJ26, HO_5, HO_29, BK297, BK302, HB⟩ := hcut
           cases kq with
           | zero => exact absurd HA.out (by simp [laws_FnFaster.j1])
           | succ kj26 =>
            have H := HA.out
            clear HA
            simp only [laws_FnFaster.j1] at H
            have HC32 := MK H
            clear H
            go_upto_if 60 with (fail)
            go_cut [7] (fun v7 wc => ∃ (kq : Nat) (x7_31 : Int), v7 = .int .i64 x7_31 ∧ Aside0 (laws_FnFaster.j2 kq t298 x6_1 x7_31 t298 (t298.length : Int) x31_1 t289 t290 t291 t292 t293 ((rd_T35 t298 x31_1).f0) ((rd_T35 t298 x31_1).f1) ((rd_T35 t298 x31_1).f2.f0) ((rd_T35 t298 x31_1).f2.f1.f0) ((rd_T35 t298 x31_1).f2.f1.f1) ((rd_T35 t298 x31_1).f2.f2) ((rd_T35 t298 x31_1).f2.f3) ((rd_T35 t298 x31_1).f2.f4) = some r) ∧ Aside0 (kq ≤ kj26) ∧ Aside0 (Kd.R k35 35 wc w.heap.size (fun k_ => k_ ≠ gb302) (.slice (some ad301) t298.length co11) t298) ∧ Aside0 (Kd.R k35 35 wc w.heap.size (fun k_ => k_ ≠ gb302) (.slice (some ad301) t298.length co11) t298) ∧ Aside0 (wc.heap[gb297]? = some (.cells #[.int .i64 t289, .int .i64 t290, .int .i64 t291, .int .i64 t292, .int .i64 t293] 24 (0, 0))) ∧ Aside0 (wc.heap[gb302]? = some (.cells #[.int .i64 ((rd_T35 t298 x31_1).f0), .int .i64 ((rd_T35 t298 x31_1).f1), .bool ((rd_T35 t298 x31_1).f2.f0), .int .i64 ((rd_T35 t298 x31_1).f2.f1.f0), .int .i64 ((rd_T35 t298 x31_1).f2.f1.f1), .int .i64 ((rd_T35 t298 x31_1).f2.f2), .bool ((rd_T35 t298 x31_1).f2.f3), .bool ((rd_T35 t298 x31_1).f2.f4)] 35 (0, 0))) ∧ Aside0 (Below w.heap.size w wc))
            case first =>
             have H := HC32.out
             clear HC32
             by_cases c33 : x60_26 = true
             ·subst c33
              have H1 : (laws_FnFaster.j2 kj26 t298 x6_1 0 t298 (t298.length : Int) x31_1 t289 t290 t291 t292 t293 ((rd_T35 t298 x31_1).f0) ((rd_T35 t298 x31_1).f1) ((rd_T35 t298 x31_1).f2.f0) ((rd_T35 t298 x31_1).f2.f1.f0) ((rd_T35 t298 x31_1).f2.f1.f1) ((rd_T35 t298 x31_1).f2.f2) ((rd_T35 t298 x31_1).f2.f3) ((rd_T35 t298 x31_1).f2.f4)) = some r := by rw [if_pos rfl] at H; exact H
              clear H
              have H := H1
              clear H1
              have H' := MK H
              clear H
              go_wp2
              go_meet
              case rel => exact ⟨_, (0), (by first | rfl | (simp; done) | (simp [*]; done)), H', ⟨by have := HK1.out; have := HJ26.out; first | omega | exact Nat.le_refl _⟩, ⟨by (with_reducible repeat (first | apply Kd.R_alloc | apply Kd.R_drewN | apply Kd.R_drew)); exact HO_5.out⟩, ⟨by (with_reducible repeat (first | apply Kd.R_alloc | apply Kd.R_drewN | apply Kd.R_drew)); exact HO_29.out⟩, ⟨by (with_reducible repeat (first | refine bN ?_ _ | refine bD ?_ | refine bA ?_ _)); exact BK297.out⟩, ⟨by (with_reducible repeat (first | refine bN ?_ _ | refine bD ?_ | refine bA ?_ _)); exact BK302.out⟩, ⟨by repeat (first | (with_reducible first | exact HB.out | apply lA | apply lN | apply lD | refine lS ?_ GE297.out | refine lS ?_ GE302.out) | exact HB.out)⟩⟩
             ·replace c33 := Bool.eq_false_iff.mpr c33
              subst c33
              have H1 : (laws_FnFaster.j2 kj26 t298 x6_1 x7_1 t298 (t298.length : Int) x31_1 t289 t290 t291 t292 t293 ((rd_T35 t298 x31_1).f0) ((rd_T35 t298 x31_1).f1) ((rd_T35 t298 x31_1).f2.f0) ((rd_T35 t298 x31_1).f2.f1.f0) ((rd_T35 t298 x31_1).f2.f1.f1) ((rd_T35 t298 x31_1).f2.f2) ((rd_T35 t298 x31_1).f2.f3) ((rd_T35 t298 x31_1).f2.f4)) = some r := by rw [if_neg (show ¬ (false = true) by decide)] at H; exact H
              clear H
              have H := H1
              clear H1
              have H' := MK H
              clear H
              go_wp2
              go_meet
              case rel => exact ⟨_, (x7_1), (by first | rfl | (simp; done) | (simp [*]; done)), H', ⟨by have := HK1.out; have := HJ26.out; first | omega | exact Nat.le_refl _⟩, ⟨by (with_reducible repeat (first | apply Kd.R_alloc | apply Kd.R_drewN | apply Kd.R_drew)); exact HO_5.out⟩, ⟨by (with_reducible repeat (first | apply Kd.R_alloc | apply Kd.R_drewN | apply Kd.R_drew)); exact HO_29.out⟩, ⟨by (with_reducible repeat (first | refine bN ?_ _ | refine bD ?_ | refine bA ?_ _)); exact BK297.out⟩, ⟨by (with_reducible repeat (first | refine bN ?_ _ | refine bD ?_ | refine bA ?_ _)); exact BK302.out⟩, ⟨by repeat (first | (with_reducible first | exact HB.out | apply lA | apply lN | apply lD | refine lS ?_ GE297.out | refine lS ?_ GE302.out) | exact HB.out)⟩⟩
            case rest =>
             clear HC32
             (try clear c2); (try clear c12); (try clear c12b0); (try clear c12b1); (try clear c12b2); (try clear c14); (try clear c15); (try clear c16); (try clear c22); (try clear c26); (try clear c26b0); (try clear c26b1); (try clear hcz13_0); (try clear hcz13_1); (try clear hcz13_2); (try clear hcz13_3); (try clear hcz13_4); (try clear hfz13_0); (try clear hfz13_1); (try clear hfz13_2); (try clear hfz13_3); (try clear hfz13_4)
             obtain ⟨kq, x7_31, rfl, HA, HJ31, HO_5, HO_29, BK297, BK302, HB⟩ := hcut
             cases kq with
             | zero => exact absurd HA.out (by simp [laws_FnFaster.j2])
             | succ kj31 =>
              have H := HA.out
              clear HA
              simp only [laws_FnFaster.j2] at H
              have HC34 := MK H
              clear H
              go_upto_region 18 with (fail)
              go_cut [80] (fun v80 wc => ∃ (kq : Nat) (x80_33 : Bool), v80 = .bool x80_33 ∧ Aside0 (laws_FnFaster.j3 kq t298 (wrap64 (x7_31 + 1)) t298 (t298.length : Int) x31_1 x80_33 t289 t290 t291 t292 t293 ((rd_T35 t298 x31_1).f0) ((rd_T35 t298 x31_1).f1) ((rd_T35 t298 x31_1).f2.f0) ((rd_T35 t298 x31_1).f2.f1.f0) ((rd_T35 t298 x31_1).f2.f1.f1) ((rd_T35 t298 x31_1).f2.f2) ((rd_T35 t298 x31_1).f2.f3) ((rd_T35 t298 x31_1).f2.f4) = some r) ∧ Aside0 (kq ≤ kj31) ∧ Aside0 (Kd.R k35 35 wc w.heap.size (fun k_ => k_ ≠ gb302) (.slice (some ad301) t298.length co11) t298) ∧ Aside0 (Kd.R k35 35 wc w.heap.size (fun k_ => k_ ≠ gb302) (.slice (some ad301) t298.length co11) t298) ∧ Aside0 (wc.heap[gb297]? = some (.cells #[.int .i64 t289, .int .i64 t290, .int .i64 t291, .int .i64 t292, .int .i64 t293] 24 (0, 0))) ∧ Aside0 (wc.heap[gb302]? = some (.cells #[.int .i64 ((rd_T35 t298 x31_1).f0), .int .i64 ((rd_T35 t298 x31_1).f1), .bool ((rd_T35 t298 x31_1).f2.f0), .int .i64 ((rd_T35 t298 x31_1).f2.f1.f0), .int .i64 ((rd_T35 t298 x31_1).f2.f1.f1), .int .i64 ((rd_T35 t298 x31_1).f2.f2), .bool ((rd_T35 t298 x31_1).f2.f3), .bool ((rd_T35 t298 x31_1).f2.f4)] 35 (0, 0))) ∧ Aside0 (Below w.heap.size w wc))
              case first =>
               have H := HC34.out
               clear HC34
               by_cases c35 : (wrap64 (x7_31 + 1)) > t291
               ·rw [if_pos c35] at H
                have c35b0 : decide (t291 < (wrap64 (x7_31 + 1))) = true := decide_eq_true c35
                clear c35
                (first | rw [c35b0] | (simp only [i64_w, i32_w]; rw [c35b0]) | skip)
                by_cases c36 : ((rd_T35 t298 x31_1).f1) > 0
                ·rw [if_pos c36] at H
                 have c36b0 : decide (0 < ((rd_T35 t298 x31_1).f1)) = true := decide_eq_true c36
                 clear c36
                 have H' := MK H
                 clear H
                 have hnb37 := NB297_302.out
                 have hnc37 := NB302_297.out
                 obtain ⟨hcz38_0, hcz38_1, hcz38_2, hcz38_3, hcz38_4⟩ := bc5 BK297.out
                 obtain ⟨hfz38_0, hfz38_1, hfz38_2, hfz38_3, hfz38_4⟩ := bf5 BK297.out
                 obtain ⟨hcz39_0, hcz39_1, hcz39_2, hcz39_3, hcz39_4, hcz39_5, hcz39_6, hcz39_7⟩ := bc8 BK302.out
                 obtain ⟨hfz39_0, hfz39_1, hfz39_2, hfz39_3, hfz39_4, hfz39_5, hfz39_6, hfz39_7⟩ := bf8 BK302.out
                 go_wp2
                 go_meet
                 case rel => exact ⟨_, (decide (((rd_T35 t298 x31_1).f1) > (wrap64 (x6_1 - t290)))), (by first | rfl | (simp; done) | (simp [*]; done)), H', ⟨by have := HK1.out; have := HJ26.out; have := HJ31.out; first | omega | exact Nat.le_refl _⟩, ⟨by (with_reducible repeat (first | apply Kd.R_alloc | apply Kd.R_drewN | apply Kd.R_drew)); exact HO_5.out⟩, ⟨by (with_reducible repeat (first | apply Kd.R_alloc | apply Kd.R_drewN | apply Kd.R_drew)); exact HO_29.out⟩, ⟨by (with_reducible repeat (first | refine bN ?_ _ | refine bD ?_ | refine bA ?_ _)); exact BK297.out⟩, ⟨by (with_reducible repeat (first | refine bN ?_ _ | refine bD ?_ | refine bA ?_ _)); exact BK302.out⟩, ⟨by repeat (first | (with_reducible first | exact HB.out | apply lA | apply lN | apply lD | refine lS ?_ GE297.out | refine lS ?_ GE302.out) | exact HB.out)⟩⟩
                ·rw [if_neg c36] at H
                 have c36b0 : decide (0 < ((rd_T35 t298 x31_1).f1)) = false := decide_eq_false c36
                 clear c36
                 have H' := MK H
                 clear H
                 have hnb40 := NB297_302.out
                 have hnc40 := NB302_297.out
                 obtain ⟨hcz41_0, hcz41_1, hcz41_2, hcz41_3, hcz41_4⟩ := bc5 BK297.out
                 obtain ⟨hfz41_0, hfz41_1, hfz41_2, hfz41_3, hfz41_4⟩ := bf5 BK297.out
                 obtain ⟨hcz42_0, hcz42_1, hcz42_2, hcz42_3, hcz42_4, hcz42_5, hcz42_6, hcz42_7⟩ := bc8 BK302.out
                 obtain ⟨hfz42_0, hfz42_1, hfz42_2, hfz42_3, hfz42_4, hfz42_5, hfz42_6, hfz42_7⟩ := bf8 BK302.out
                 go_wp2
                 go_meet
                 case rel => exact ⟨_, (false), (by first | rfl | (simp; done) | (simp [*]; done)), H', ⟨by have := HK1.out; have := HJ26.out; have := HJ31.out; first | omega | exact Nat.le_refl _⟩, ⟨by (with_reducible repeat (first | apply Kd.R_alloc | apply Kd.R_drewN | apply Kd.R_drew)); exact HO_5.out⟩, ⟨by (with_reducible repeat (first | apply Kd.R_alloc | apply Kd.R_drewN | apply Kd.R_drew)); exact HO_29.out⟩, ⟨by (with_reducible repeat (first | refine bN ?_ _ | refine bD ?_ | refine bA ?_ _)); exact BK297.out⟩, ⟨by (with_reducible repeat (first | refine bN ?_ _ | refine bD ?_ | refine bA ?_ _)); exact BK302.out⟩, ⟨by repeat (first | (with_reducible first | exact HB.out | apply lA | apply lN | apply lD | refine lS ?_ GE297.out | refine lS ?_ GE302.out) | exact HB.out)⟩⟩
               ·rw [if_neg c35] at H
                have c35b0 : decide (t291 < (wrap64 (x7_31 + 1))) = false := decide_eq_false c35
                clear c35
                (first | rw [c35b0] | (simp only [i64_w, i32_w]; rw [c35b0]) | skip)
                have H' := MK H
                clear H
                have hnb43 := NB297_302.out
                have hnc43 := NB302_297.out
                obtain ⟨hcz44_0, hcz44_1, hcz44_2, hcz44_3, hcz44_4⟩ := bc5 BK297.out
                obtain ⟨hfz44_0, hfz44_1, hfz44_2, hfz44_3, hfz44_4⟩ := bf5 BK297.out
                go_wp2
                go_meet
                case rel => exact ⟨_, (false), (by first | rfl | (simp; done) | (simp [*]; done)), H', ⟨by have := HK1.out; have := HJ26.out; have := HJ31.out; first | omega | exact Nat.le_refl _⟩, ⟨by (with_reducible repeat (first | apply Kd.R_alloc | apply Kd.R_drewN | apply Kd.R_drew)); exact HO_5.out⟩, ⟨by (with_reducible repeat (first | apply Kd.R_alloc | apply Kd.R_drewN | apply Kd.R_drew)); exact HO_29.out⟩, ⟨by (with_reducible repeat (first | refine bN ?_ _ | refine bD ?_ | refine bA ?_ _)); exact BK297.out⟩, ⟨by (with_reducible repeat (first | refine bN ?_ _ | refine bD ?_ | refine bA ?_ _)); exact BK302.out⟩, ⟨by repeat (first | (with_reducible first | exact HB.out | apply lA | apply lN | apply lD | refine lS ?_ GE297.out | refine lS ?_ GE302.out) | exact HB.out)⟩⟩
              case rest =>
               clear HC34
               (try clear c2); (try clear c12); (try clear c12b0); (try clear c12b1); (try clear c12b2); (try clear c14); (try clear c15); (try clear c16); (try clear c22); (try clear c26); (try clear c26b0); (try clear c26b1); (try clear hcz13_0); (try clear hcz13_1); (try clear hcz13_2); (try clear hcz13_3); (try clear hcz13_4); (try clear hfz13_0); (try clear hfz13_1); (try clear hfz13_2); (try clear hfz13_3); (try clear hfz13_4)
               obtain ⟨kq, x80_33, rfl, HA, HJ33, HO_5, HO_29, BK297, BK302, HB⟩ := hcut
               cases kq with
               | zero => exact absurd HA.out (by simp [laws_FnFaster.j3])
               | succ kj33 =>
                have H := HA.out
                clear HA
                simp only [laws_FnFaster.j3] at H
                by_cases c45 : x80_33 = true
                ·subst c45
                 have H1 : (some false) = some r := by rw [if_pos rfl] at H; exact H
                 clear H
                 have H := H1
                 clear H1
                 obtain rfl := Option.some.inj H
                 go_wp2
                 go_ret
                 exact ⟨by first | rfl | (simp [errW_none, errW_some] <;> rfl) | (simp [*, errW_none, errW_some] <;> rfl), by repeat (first | (with_reducible first | exact HB.out | apply lA | apply lN | apply lD | refine lS ?_ GE297.out | refine lS ?_ GE302.out) | exact HB.out)⟩
                ·replace c45 := Bool.eq_false_iff.mpr c45
                 subst c45
                 have H1 : (laws_FnFaster.l0 kj33 t298 ((rd_T35 t298 x31_1).f1) (wrap64 (x7_31 + 1)) t298 (t298.length : Int) (wrap64 (x31_1 + 1)) t289 t290 t291 t292 t293) = some r := by rw [if_neg (show ¬ (false = true) by decide)] at H; exact H
                 clear H
                 have H := H1
                 clear H1
                 have H' := MK H
                 clear H
                 have hnb46 := NB302_297.out
                 have hnc46 := NB297_302.out
                 obtain ⟨hcz47_0, hcz47_1, hcz47_2, hcz47_3, hcz47_4, hcz47_5, hcz47_6, hcz47_7⟩ := bc8 BK302.out
                 obtain ⟨hfz47_0, hfz47_1, hfz47_2, hfz47_3, hfz47_4, hfz47_5, hfz47_6, hfz47_7⟩ := bf8 BK302.out
                 go_wp2
                 go_roundg kj33
                 case measure => have := HK1.out; have := HJ26.out; have := HJ31.out; have := HJ33.out; omega
                 case rel => exact ⟨(((rd_T35 t298 x31_1).f1)), ((wrap64 (x7_31 + 1))), (wrap64 (x31_1 + 1)), (by first | rfl | (simp; done) | (simp [*]; done)), (by first | rfl | (simp; done) | (simp [*]; done)), (by first | rfl | (simp; done) | (simp [*]; done)), H', ⟨by have := HK1.out; have := HJ26.out; have := HJ31.out; have := HJ33.out; omega⟩, ⟨by (with_reducible repeat (first | apply Kd.R_alloc | apply Kd.R_drewN | apply Kd.R_drew)); exact Kd.R_mono HO_5.out (fun _ hk => trivial)⟩, ⟨by (with_reducible repeat (first | apply Kd.R_alloc | apply Kd.R_drewN | apply Kd.R_drew)); exact Kd.R_mono HO_29.out (fun _ hk => trivial)⟩, ⟨by (with_reducible repeat (first | refine bN ?_ _ | refine bD ?_ | refine bA ?_ _)); exact BK297.out⟩, ⟨by repeat (first | (with_reducible first | exact HB.out | apply lA | apply lN | apply lD | refine lS ?_ GE297.out | refine lS ?_ GE302.out) | exact HB.out)⟩⟩
         ·rw [if_neg c26] at H
          have c26b0 : (((rd_T35 t298 x31_1).f2.f1.f0) == 3) = false := beq_eq_false_iff_ne.mpr c26
          have c26b1 : (((rd_T35 t298 x31_1).f2.f1.f0) != 3) = true := bne_iff_ne.mpr c26
          (first | rw [c26b0] | (simp only [i64_w, i32_w]; rw [c26b0]) | rw [c26b1] | skip)
          have H' := MK H
          clear H
          have hnb48 := NB302_297.out
          have hnc48 := NB297_302.out
          obtain ⟨hcz49_0, hcz49_1, hcz49_2, hcz49_3, hcz49_4, hcz49_5, hcz49_6, hcz49_7⟩ := bc8 BK302.out
          obtain ⟨hfz49_0, hfz49_1, hfz49_2, hfz49_3, hfz49_4, hfz49_5, hfz49_6, hfz49_7⟩ := bf8 BK302.out
          go_wp2
          go_roundg k1
          case measure => have := HK1.out; omega
          case rel => exact ⟨((rd_T35 t298 x31_1).f1), (x7_1), (wrap64 (x31_1 + 1)), (by first | rfl | (simp; done) | (simp [*]; done)), (by first | rfl | (simp; done) | (simp [*]; done)), (by first | rfl | (simp; done) | (simp [*]; done)), H', ⟨by have := HK1.out; omega⟩, ⟨by (with_reducible repeat (first | apply Kd.R_alloc | apply Kd.R_drewN | apply Kd.R_drew)); exact Kd.R_mono (Kd.R_far (p := ⟨gb302, 7, none⟩) (Kd.R_far (p := ⟨gb302, 6, none⟩) (Kd.R_far (p := ⟨gb302, 5, none⟩) (Kd.R_far (p := ⟨gb302, 4, none⟩) (Kd.R_far (p := ⟨gb302, 3, none⟩) (Kd.R_far (p := ⟨gb302, 2, none⟩) (Kd.R_far (p := ⟨gb302, 1, none⟩) (Kd.R_far (p := ⟨gb302, 0, none⟩) (Kd.R_mono HO_5.out (fun k_ hk => (⟨hk, hk.2⟩ : _ ∧ k_ ≠ gb302))) (fun _ hk => hk.2) (.int .i64 ((rd_T35 t298 x31_1).f0))) (fun _ hk => hk.2) (.int .i64 ((rd_T35 t298 x31_1).f1))) (fun _ hk => hk.2) (.bool ((rd_T35 t298 x31_1).f2.f0))) (fun _ hk => hk.2) (.int .i64 ((rd_T35 t298 x31_1).f2.f1.f0))) (fun _ hk => hk.2) (.int .i64 ((rd_T35 t298 x31_1).f2.f1.f1))) (fun _ hk => hk.2) (.int .i64 ((rd_T35 t298 x31_1).f2.f2))) (fun _ hk => hk.2) (.bool ((rd_T35 t298 x31_1).f2.f3))) (fun _ hk => hk.2) (.bool ((rd_T35 t298 x31_1).f2.f4))) (fun _ hk => trivial)⟩, ⟨by (with_reducible repeat (first | apply Kd.R_alloc | apply Kd.R_drewN | apply Kd.R_drew)); exact Kd.R_mono (Kd.R_far (p := ⟨gb302, 7, none⟩) (Kd.R_far (p := ⟨gb302, 6, none⟩) (Kd.R_far (p := ⟨gb302, 5, none⟩) (Kd.R_far (p := ⟨gb302, 4, none⟩) (Kd.R_far (p := ⟨gb302, 3, none⟩) (Kd.R_far (p := ⟨gb302, 2, none⟩) (Kd.R_far (p := ⟨gb302, 1, none⟩) (Kd.R_far (p := ⟨gb302, 0, none⟩) (Kd.R_mono HO_29.out (fun k_ hk => (⟨hk, hk.2⟩ : _ ∧ k_ ≠ gb302))) (fun _ hk => hk.2) (.int .i64 ((rd_T35 t298 x31_1).f0))) (fun _ hk => hk.2) (.int .i64 ((rd_T35 t298 x31_1).f1))) (fun _ hk => hk.2) (.bool ((rd_T35 t298 x31_1).f2.f0))) (fun _ hk => hk.2) (.int .i64 ((rd_T35 t298 x31_1).f2.f1.f0))) (fun _ hk => hk.2) (.int .i64 ((rd_T35 t298 x31_1).f2.f1.f1))) (fun _ hk => hk.2) (.int .i64 ((rd_T35 t298 x31_1).f2.f2))) (fun _ hk => hk.2) (.bool ((rd_T35 t298 x31_1).f2.f3))) (fun _ hk => hk.2) (.bool ((rd_T35 t298 x31_1).f2.f4))) (fun _ hk => trivial)⟩, ⟨by (with_reducible repeat (first | refine bN ?_ _ | refine bD ?_ | refine bA ?_ _)); refine blk_far ?_ NB297_302.out _; (with_reducible repeat (first | refine bN ?_ _ | refine bD ?_ | refine bA ?_ _)); refine blk_far ?_ NB297_302.out _; (with_reducible repeat (first | refine bN ?_ _ | refine bD ?_ | refine bA ?_ _)); refine blk_far ?_ NB297_302.out _; (with_reducible repeat (first | refine bN ?_ _ | refine bD ?_ | refine bA ?_ _)); refine blk_far ?_ NB297_302.out _; (with_reducible repeat (first | refine bN ?_ _ | refine bD ?_ | refine bA ?_ _)); refine blk_far ?_ NB297_302.out _; (with_reducible repeat (first | refine bN ?_ _ | refine bD ?_ | refine bA ?_ _)); refine blk_far ?_ NB297_302.out _; (with_reducible repeat (first | refine bN ?_ _ | refine bD ?_ | refine bA ?_ _)); refine blk_far ?_ NB297_302.out _; (with_reducible repeat (first | refine bN ?_ _ | refine bD ?_ | refine bA ?_ _)); refine blk_far ?_ NB297_302.out _; (with_reducible repeat (first | refine bN ?_ _ | refine bD ?_ | refine bA ?_ _)); exact BK297.out⟩, ⟨by repeat (first | (with_reducible first | exact HB.out | apply lA | apply lN | apply lD | refine lS ?_ GE297.out | refine lS ?_ GE302.out) | exact HB.out)⟩⟩
       ·rw [if_neg c16] at H
        exact absurd H (by simp)
      ·rw [if_neg c15] at H
       exact absurd H (by simp)
     ·rw [if_neg c14] at H
      have c14b0 : decide (x31_1 < (t298.length : Int)) = false := decide_eq_false c14
      clear c14
      obtain rfl := Option.some.inj H
      go_wp2
      go_ret
      exact ⟨by first | rfl | (simp [errW_none, errW_some] <;> rfl) | (simp [*, errW_none, errW_some] <;> rfl), by repeat (first | (with_reducible first | exact HB.out | apply lA | apply lN | apply lD | refine lS ?_ GE297.out) | exact HB.out)⟩
  ·rw [if_neg c12] at H
   have c12b0 : ((t298.length : Int) == (t294.length : Int)) = false := beq_eq_false_iff_ne.mpr c12
   have c12b1 : ((t298.length : Int) != (t294.length : Int)) = true := bne_iff_ne.mpr c12
   have c12b2 : (t298.length == t294.length) = false := by first | simpa using c12 | (simp at c12 ⊢; omega)
   (first | rw [c12b0] | (simp only [i64_w, i32_w]; rw [c12b0]) | rw [c12b1] | skip)
   obtain rfl := Option.some.inj H
   go_wp2
   go_ret
   exact ⟨by first | rfl | (simp [errW_none, errW_some] <;> rfl) | (simp [*, errW_none, errW_some] <;> rfl), by repeat (first | (with_reducible first | exact HB.out | apply lA | apply lN | apply lD | refine lS ?_ GE297.out) | exact HB.out)⟩

/-- THE ONE PURE STATEMENT of laws_FnFaster: yours. -/
def laws_FnFaster.Pure : Prop := ∀ (l0 : List Int), l0.length ≤ maxLen → l0.length * 1 ≤ 140737488351232 → (∀ x ∈ l0, (Lit.int .u8 x).wf = true) → ∃ k, laws_FnFaster.f k l0 = some true
theorem laws_FnFaster.walk (P : laws_FnFaster.Pure) (a0 : Option Addr) (len0 cap0 : Nat) (z0 : List Int) (w : World) (w0 : (a0 = none ∧ len0 = 0 ∧ cap0 = 0 ∧ z0 = []) ∨ ∃ x, a0 = some x ∧ len0 ≤ cap0 ∧ cap0 ≤ maxLen ∧ z0.length = cap0 ∧ (∀ i, i < z0.length → w.cell? (x.add i) = some (.int .u8 (z0.getD i 0))) ∧ ∀ n ∈ z0, (Lit.int .u8 n).wf = true) (y0 : len0 * 1 ≤ 140737488351232) :
  Calls Try.prog 3 #[.slice a0 len0 cap0] w fun e w' => e = .returned (.bool true) ∧ Below w.heap.size w w' := by
 obtain ⟨l0, rfl, hr0, hm0, hw0, hc0⟩ := ReadsInt.ofRowC w0
 obtain ⟨k, h⟩ := P l0 hm0 y0 hw0
 refine (laws_FnFaster.calls k _ _ l0 true w (Kd.C_of_reads (d := (0 : Int)) (h1 := fun _ => rfl) hr0) hc0 h).mono ?_
 rintro e w' ⟨rfl, hd⟩
 exact ⟨rfl, hd⟩

end Go.Proofs.Ytcfhjidddpoijaa.Q
