/- Walks: a call of each function answers what its Lean function tells; no condition but that it tells something. -/
import Derived.Test.YtcfhjidddpoijaaXNQ0
import Derived.Test.YtcfhjidddpoijaaXNQ1
import Derived.Test.YtcfhjidddpoijaaXNQ20
import Derived.Test.YtcfhjidddpoijaaXNQ21
import Derived.Test.YtcfhjidddpoijaaXNQ25
import Derived.Test.YtcfhjidddpoijaaXNQ26
namespace Go.Proofs.Ytcfhjidddpoijaa.Q
open Go.RowKit Go.Proofs.YtcfhjidddpoijaaW.PrintWords Go.Proofs.YtcfhjidddpoijaaW.PrintLast Go.Proofs.YtcfhjidddpoijaaW.PrintMore
attribute [local go_sem] max2_int min2_int max_two min_two max_three min_three max_four min_four   -- for this text's walks alone
set_option linter.unusedVariables false
set_option linter.unusedSimpArgs false

attribute [local go_sem high] eqA33
/-! ### laws_FnRun: function 8 -/
mutual
def laws_FnRun.l0 : Nat → List (S44) → List (S33) → List (S33) → Int → Int → Int → Int → Int → Int → Int → Int → Int → Option (Bool)
 | 0, _, _, _, _, _, _, _, _, _, _, _, _ => none
 | k + 1, x4, x5, x6, x31, x32, x810000, x810001, x810002, x810003, x810004, x817000, x817001 => if x32 < x31 then (if 0 ≤ x32 then (if x32 < (x4.length : Int) then ((impl_Tick.f k x810000 x810001 x810002 x810003 x810004 x817000 x817001 ((rd_T44 x4 x32).f0) ((rd_T44 x4 x32).f1) ((rd_T44 x4 x32).f2) ((rd_T44 x4 x32).f3) ((rd_T44 x4 x32).f4)).bind fun bt818 => (if x32 < (x5.length : Int) then (if x32 < (x6.length : Int) then (if (!(((rd_T33 x5 x32).f0) == ((rd_T33 x6 x32).f0)) || ((!(((rd_T33 x5 x32).f1.f0) == ((rd_T33 x6 x32).f1.f0)) || (!(((rd_T33 x5 x32).f1.f1) == ((rd_T33 x6 x32).f1.f1)))) || (!(((rd_T33 x5 x32).f2) == ((rd_T33 x6 x32).f2)) || (!(((rd_T33 x5 x32).f3) == ((rd_T33 x6 x32).f3)) || (!(((rd_T33 x5 x32).f4) == ((rd_T33 x6 x32).f4))))))) = true then (laws_FnRun.j1 k x4 x5 x6 x31 x32 true x810000 x810001 x810002 x810003 x810004 bt818.1 bt818.2.1 bt818.2.2.1 bt818.2.2.2.1 bt818.2.2.2.2.1 bt818.2.2.2.2.2) else (if (!(bt818.1 == ((rd_T33 x5 x32).f0)) || ((!(bt818.2.1 == ((rd_T33 x5 x32).f1.f0)) || (!(bt818.2.2.1 == ((rd_T33 x5 x32).f1.f1)))) || (!(bt818.2.2.2.1 == ((rd_T33 x5 x32).f2)) || (!(bt818.2.2.2.2.1 == ((rd_T33 x5 x32).f3)) || (!(bt818.2.2.2.2.2 == ((rd_T33 x5 x32).f4))))))) = true then (laws_FnRun.j1 k x4 x5 x6 x31 x32 true x810000 x810001 x810002 x810003 x810004 bt818.1 bt818.2.1 bt818.2.2.1 bt818.2.2.2.1 bt818.2.2.2.2.1 bt818.2.2.2.2.2) else ((impl_GuardOk.f bt818.2.1 bt818.2.2.1).bind fun t828 => (laws_FnRun.j1 k x4 x5 x6 x31 x32 (!t828) x810000 x810001 x810002 x810003 x810004 bt818.1 bt818.2.1 bt818.2.2.1 bt818.2.2.2.1 bt818.2.2.2.2.1 bt818.2.2.2.2.2)))) else (none)) else (none))) else (none)) else (none)) else (some true)
def laws_FnRun.j1 : Nat → List (S44) → List (S33) → List (S33) → Int → Int → Bool → Int → Int → Int → Int → Int → Bool → Int → Int → Int → Bool → Bool → Option (Bool)
 | 0, _, _, _, _, _, _, _, _, _, _, _, _, _, _, _, _, _ => none
 | k + 1, x4, x5, x6, x31, x32, x64, x810000, x810001, x810002, x810003, x810004, x825000, x825001, x825002, x825003, x825004, x825005 => if x64 = true then (some false) else (laws_FnRun.l0 k x4 x5 x6 x31 (wrap64 (x32 + 1)) x810000 x810001 x810002 x810003 x810004 x825001 x825002)
end
def laws_FnRun.f (k : Nat) (l0 : List Int) : Option (Bool) := if (l0.length : Int) > 1048576 then (some true) else ((spec_DrawRun.f k l0).bind fun bt801 => ((impl_Run.f k bt801.1 bt801.2.1 bt801.2.2.1 bt801.2.2.2.1 bt801.2.2.2.2.1 bt801.2.2.2.2.2).bind fun t810 => ((spec_Run.f k bt801.1 bt801.2.1 bt801.2.2.1 bt801.2.2.2.1 bt801.2.2.2.2.1 bt801.2.2.2.2.2).bind fun t813 => (if (t810.length : Int) = (t813.length : Int) then (laws_FnRun.l0 k bt801.2.2.2.2.2 t810 t813 (t810.length : Int) 0 bt801.1 bt801.2.1 bt801.2.2.1 bt801.2.2.2.1 bt801.2.2.2.2.1 3 (-1)) else (some false)))))
def laws_FnRun.T12 : Bool × List (List Nat × List Nat) := (true, [([], []), ([], []), ([], []), ([], []), ([2, 3], [2, 3]), ([4], [4]), ([0, 1, 5], [0, 1, 5]), ([], []), ([7, 6, 6, 0, 1, 2, 3, 4, 5, 6, 7], [6, 7])])
def laws_FnRun.B12 : List Nat := [0, 0, 0, 0, 12, 28, 63, 0, 255]
theorem laws_FnRun.tab12 : rtab .any (opsOf Try.f8 12) = laws_FnRun.T12 := by kernel_rfl
theorem laws_FnRun.bits12 : waitsOk laws_FnRun.T12.2 laws_FnRun.B12 = true := by kernel_rfl
def laws_FnRun.T13 : Bool × List (List Nat × List Nat) := (true, [([], []), ([], []), ([0, 1], [0, 1]), ([2], [2]), ([], []), ([], []), ([4, 5], [4, 5]), ([6], [6]), ([3, 7], [3, 7]), ([8], [8]), ([9], [9]), ([9], [9]), ([9], [9]), ([11, 12, 9], [9, 11, 12]), ([13, 9], [9, 13]), ([10, 14, 9], [9, 10, 14]), ([9, 15], [9, 15]), ([16, 9], [16]), ([17], [17]), ([18, 17], [17, 18]), ([19, 17, 17], [17, 19]), ([20, 17], [17, 20]), ([17, 21], [17, 21])])
def laws_FnRun.B13 : List Nat := [0, 0, 3, 7, 0, 0, 48, 112, 255, 511, 1023, 1023, 1023, 7167, 15359, 32767, 65535, 131071, 262143, 524287, 1048575, 2097151, 4194303]
theorem laws_FnRun.tab13 : rtab .any (opsOf Try.f8 13) = laws_FnRun.T13 := by kernel_rfl
theorem laws_FnRun.bits13 : waitsOk laws_FnRun.T13.2 laws_FnRun.B13 = true := by kernel_rfl
set_option maxHeartbeats 8000000 in
set_option maxRecDepth 100000 in
theorem laws_FnRun.calls (k : Nat) (A0 : Option Addr) (c0 : Nat) (l0 : List Int) (r : Bool) (w : World) (hr0 : Kd.C (Kd.int .u8) w A0 l0.length l0) (hc0 : l0.length ≤ c0) (h : laws_FnRun.f k l0 = some r) :
  Calls Try.prog 8 #[.slice A0 l0.length c0] w fun e w' => e = .returned (.bool r) ∧ Below w.heap.size w w' := by
 have hu24 := Try.underlying24
 have hu31 := Try.underlying31
 have hu44 := Try.underlying44
 have hu33 := Try.underlying33
 have HR0 := MK hr0
 have HC0 := MK hc0
 clear hr0 hc0
 have HB := MK (Below.refl w.heap.size w)
 have H : (if (l0.length : Int) > 1048576 then (some true) else ((spec_DrawRun.f k l0).bind fun bt801 => ((impl_Run.f k bt801.1 bt801.2.1 bt801.2.2.1 bt801.2.2.2.1 bt801.2.2.2.2.1 bt801.2.2.2.2.2).bind fun t810 => ((spec_Run.f k bt801.1 bt801.2.1 bt801.2.2.1 bt801.2.2.2.1 bt801.2.2.2.2.1 bt801.2.2.2.2.2).bind fun t813 => (if (t810.length : Int) = (t813.length : Int) then (laws_FnRun.l0 k bt801.2.2.2.2.2 t810 t813 (t810.length : Int) 0 bt801.1 bt801.2.1 bt801.2.2.1 bt801.2.2.2.1 bt801.2.2.2.2.1 3 (-1)) else (some false)))))) = some r := h
 clear h
 by_cases c2 : (l0.length : Int) > 1048576
 ·rw [if_pos c2] at H
  have c2b0 : decide (1048576 < (l0.length : Int)) = true := decide_eq_true c2
  have c2b1 : decide (1048576 < l0.length) = true := decide_eq_true (by omega)
  clear c2
  obtain rfl := Option.some.inj H
  go_enter Try.func8, Try.ntmps8
  go_wp2
  go_ret
  exact ⟨by first | rfl | (simp [errW_none, errW_some] <;> rfl) | (simp [*, errW_none, errW_some] <;> rfl), by repeat (first | (with_reducible first | exact HB.out | apply lA | apply lN | apply lD) | exact HB.out)⟩
 ·rw [if_neg c2] at H
  have c2b0 : decide (1048576 < (l0.length : Int)) = false := decide_eq_false c2
  have c2b1 : decide (1048576 < l0.length) = false := decide_eq_false (by omega)
  clear c2
  replace H := Option.bind_eq_some_iff.mp H
  obtain ⟨⟨t801, t802, t803, t804, t805, t806⟩, A30, H⟩ := H
  replace H : ((impl_Run.f k t801 t802 t803 t804 t805 t806).bind fun t810 => ((spec_Run.f k t801 t802 t803 t804 t805 t806).bind fun t813 => (if (t810.length : Int) = (t813.length : Int) then (laws_FnRun.l0 k t806 t810 t813 (t810.length : Int) 0 t801 t802 t803 t804 t805 3 (-1)) else (some false)))) = some r := H
  have A3 := MK A30
  clear A30
  replace H := Option.bind_eq_some_iff.mp H
  obtain ⟨t810, A40, H⟩ := H
  replace H : ((spec_Run.f k t801 t802 t803 t804 t805 t806).bind fun t813 => (if (t810.length : Int) = (t813.length : Int) then (laws_FnRun.l0 k t806 t810 t813 (t810.length : Int) 0 t801 t802 t803 t804 t805 3 (-1)) else (some false))) = some r := H
  have A4 := MK A40
  clear A40
  replace H := Option.bind_eq_some_iff.mp H
  obtain ⟨t813, A50, H⟩ := H
  replace H : (if (t810.length : Int) = (t813.length : Int) then (laws_FnRun.l0 k t806 t810 t813 (t810.length : Int) 0 t801 t802 t803 t804 t805 3 (-1)) else (some false)) = some r := H
  have A5 := MK A50
  clear A50
  have HC6 := MK H
  clear H
  go_enter Try.func8, Try.ntmps8
  go_upto_if 28 with (first | ((with_reducible refine gate_callee (f := 23) rfl ?_); refine goesL_ (some 15) rfl rfl Try.func23 (by kernel_rfl) rfl #[.slice A0 l0.length c0] rfl (by (try simp only [List.map_toArray, List.map_cons, List.map_nil]); first | done | rfl | (simp only [List.length_drop, List.length_take]; rfl)) ?_; (with_reducible refine (spec_DrawRun.calls k _ _ l0 t801 t802 t803 t804 t805 t806 _ ?side1 ?side2 A3.out).mono ?_); (case side1 => repeat (first | exact HR0.out | (with_reducible refine Kd.C_alloc ?_ _) | (with_reducible refine Kd.C_drewN ?_ _) | (with_reducible refine Kd.C_drew ?_))); (case side2 => exact HC0.out); rintro e w7 ⟨v807, rfl, ho0, hb⟩; refine ⟨_, rfl, ?_⟩; have n0_ := MK (Kd.R_lower ho0 (below_size (by repeat (first | (with_reducible first | exact HB.out | apply lA | apply lN | apply lD) | exact HB.out)))); have n1_ := MK (below_step (by repeat (first | (with_reducible first | exact HB.out | apply lA | apply lN | apply lD) | exact HB.out)) hb); clear HB; have HO808 := n0_; have HB := n1_; clear n0_ n1_; (try clear hb); (try clear hb2); (try clear hk); (try clear hi); (try clear ho0)) | ((with_reducible refine gate_dst (N := 3) rfl ?_); refine box_event ?hg (N := 3) ?hd (cs := #[.int .i64 0, .int .i64 0, .int .i64 0, .int .i64 0, .int .i64 0]) (t := 24) ?hr ?_; (case hd => rfl); (case hg => rfl); (case hr => first | (go_simp; done) | (go_simp; rfl)); intro gb809 hg w8 hbox hb; have n0_ := MK (Kd.R_below (by (with_reducible repeat (first | apply Kd.R_alloc | apply Kd.R_drewN | apply Kd.R_drew)); exact HO808.out) hb); have n1_ := MK (below_step (by repeat (first | (with_reducible first | exact HB.out | apply lA | apply lN | apply lD) | exact HB.out)) hb); have n2_ := MK (hbox); have n3_ := MK ((by rw [hg]; exact (below_size (by repeat (first | (with_reducible first | exact HB.out | apply lA | apply lN | apply lD) | exact HB.out))) : w.heap.size ≤ gb809)); have n4_ := MK ((by rw [hg]; exact (below_size (by repeat (first | (with_reducible first | exact HB.out | apply lA | apply lN | apply lD) | exact HB.out))) : w.heap.size ≤ gb809)); clear HO808; clear HB; have HO808 := n0_; have HB := n1_; have BK809 := n2_; have GW809 := n3_; have GE809 := n4_; clear n0_ n1_ n2_ n3_ n4_; clear hb hbox hg; obtain ⟨hcz9_0, hcz9_1, hcz9_2, hcz9_3, hcz9_4⟩ := bc5 BK809.out; obtain ⟨hfz9_0, hfz9_1, hfz9_2, hfz9_3, hfz9_4⟩ := bf5 BK809.out; obtain ⟨Ao10, co10, eo10⟩ := Kd.R_slice HO808.out; subst eo10) | ((with_reducible refine gate_callee (f := 24) rfl ?_); refine goesL_ (some 20) rfl rfl Try.func24 (by kernel_rfl) rfl #[.agg #[.int .i64 t801, .int .i64 t802, .int .i64 t803, .int .i64 t804, .int .i64 t805], .slice Ao10 t806.length co10] rfl (by (try simp only [List.map_toArray, List.map_cons, List.map_nil]); first | done | rfl | (simp only [List.length_drop, List.length_take]; rfl)) ?_; (with_reducible refine (impl_Run.calls k t801 t802 t803 t804 t805 _ _ t806 t810 _ ?side1 ?side2 A4.out).mono ?_); (case side1 => refine (Kd.R_reads' (e := 44) (base := w.heap.size) (ok := fun k_ => True) (n := t806.length) (c := co10) ?_).2.2; exact (by (with_reducible repeat (first | apply Kd.R_alloc | apply Kd.R_drewN | apply Kd.R_drew)); exact (Kd.R_mono (Kd.R_far (p := ⟨gb809, 4, none⟩) (Kd.R_far (p := ⟨gb809, 3, none⟩) (Kd.R_far (p := ⟨gb809, 2, none⟩) (Kd.R_far (p := ⟨gb809, 1, none⟩) (Kd.R_far (p := ⟨gb809, 0, none⟩) (Kd.R_types HO808.out BK809.out (by decide)) (fun _ hk => hk.2) (.int .i64 t801)) (fun _ hk => hk.2) (.int .i64 t802)) (fun _ hk => hk.2) (.int .i64 t803)) (fun _ hk => hk.2) (.int .i64 t804)) (fun _ hk => hk.2) (.int .i64 t805)) (fun _ h_ => h_.1)))); (case side2 => exact (Kd.R_reads' HO808.out).2.1); rintro e w11 ⟨v811, rfl, ho0, hb⟩; refine ⟨_, rfl, ?_⟩; have n0_ := MK (Kd.R_below (by (with_reducible repeat (first | apply Kd.R_alloc | apply Kd.R_drewN | apply Kd.R_drew)); exact (Kd.R_mono (Kd.R_far (p := ⟨gb809, 4, none⟩) (Kd.R_far (p := ⟨gb809, 3, none⟩) (Kd.R_far (p := ⟨gb809, 2, none⟩) (Kd.R_far (p := ⟨gb809, 1, none⟩) (Kd.R_far (p := ⟨gb809, 0, none⟩) (Kd.R_types HO808.out BK809.out (by decide)) (fun _ hk => hk.2) (.int .i64 t801)) (fun _ hk => hk.2) (.int .i64 t802)) (fun _ hk => hk.2) (.int .i64 t803)) (fun _ hk => hk.2) (.int .i64 t804)) (fun _ hk => hk.2) (.int .i64 t805)) (fun _ h_ => h_.1))) hb); have n1_ := MK (Kd.R_lower ho0 (below_size (by repeat (first | (with_reducible first | exact HB.out | apply lA | apply lN | apply lD | refine lS ?_ GE809.out) | exact HB.out)))); have n2_ := MK (blk_below (g := gb809) (o := .cells #[.int .i64 t801, .int .i64 t802, .int .i64 t803, .int .i64 t804, .int .i64 t805] 24 (0, 0)) (by (with_reducible repeat (first | refine bN ?_ _ | refine bD ?_ | refine bA ?_ _)); refine blk_put (cs := #[.int .i64 t801, .int .i64 t802, .int .i64 t803, .int .i64 t804, .int .i64 0]) ?_ 4 _ rfl; (with_reducible repeat (first | refine bN ?_ _ | refine bD ?_ | refine bA ?_ _)); refine blk_put (cs := #[.int .i64 t801, .int .i64 t802, .int .i64 t803, .int .i64 0, .int .i64 0]) ?_ 3 _ rfl; (with_reducible repeat (first | refine bN ?_ _ | refine bD ?_ | refine bA ?_ _)); refine blk_put (cs := #[.int .i64 t801, .int .i64 t802, .int .i64 0, .int .i64 0, .int .i64 0]) ?_ 2 _ rfl; (with_reducible repeat (first | refine bN ?_ _ | refine bD ?_ | refine bA ?_ _)); refine blk_put (cs := #[.int .i64 t801, .int .i64 0, .int .i64 0, .int .i64 0, .int .i64 0]) ?_ 1 _ rfl; (with_reducible repeat (first | refine bN ?_ _ | refine bD ?_ | refine bA ?_ _)); refine blk_put (cs := #[.int .i64 0, .int .i64 0, .int .i64 0, .int .i64 0, .int .i64 0]) ?_ 0 _ rfl; (with_reducible repeat (first | refine bN ?_ _ | refine bD ?_ | refine bA ?_ _)); exact BK809.out) hb); have n3_ := MK (below_step (by repeat (first | (with_reducible first | exact HB.out | apply lA | apply lN | apply lD | refine lS ?_ GE809.out) | exact HB.out)) hb); clear HO808; clear BK809; clear HB; have HO808 := n0_; have HO812 := n1_; have BK809 := n2_; have HB := n3_; clear n0_ n1_ n2_ n3_; (try clear hb); (try clear hb2); (try clear hk); (try clear hi); (try clear ho0); obtain ⟨hcz12_0, hcz12_1, hcz12_2, hcz12_3, hcz12_4⟩ := bc5 BK809.out; obtain ⟨hfz12_0, hfz12_1, hfz12_2, hfz12_3, hfz12_4⟩ := bf5 BK809.out) | ((with_reducible refine gate_callee (f := 25) rfl ?_); refine goesL_ (some 23) rfl rfl Try.func25 (by kernel_rfl) rfl #[.agg #[.int .i64 t801, .int .i64 t802, .int .i64 t803, .int .i64 t804, .int .i64 t805], .slice Ao10 t806.length co10] rfl (by (try simp only [List.map_toArray, List.map_cons, List.map_nil]); first | done | rfl | (simp only [List.length_drop, List.length_take]; rfl)) ?_; (with_reducible refine (spec_Run.calls k t801 t802 t803 t804 t805 _ _ t806 t813 _ ?side1 ?side2 A5.out).mono ?_); (case side1 => repeat (first | exact (Kd.R_reads' HO808.out).2.2 | (with_reducible refine Kd.C_alloc ?_ _) | (with_reducible refine Kd.C_drewN ?_ _) | (with_reducible refine Kd.C_drew ?_))); (case side2 => exact (Kd.R_reads' HO808.out).2.1); rintro e w13 ⟨v814, rfl, ho0, hb⟩; refine ⟨_, rfl, ?_⟩; have n0_ := MK (Kd.R_below (by (with_reducible repeat (first | apply Kd.R_alloc | apply Kd.R_drewN | apply Kd.R_drew)); exact HO808.out) hb); have n1_ := MK (Kd.R_elder' (by (with_reducible repeat (first | apply Kd.R_alloc | apply Kd.R_drewN | apply Kd.R_drew)); exact HO812.out) (Kd.R_base ho0) hb); have n2_ := MK (Kd.R_lower (Kd.R_new' ho0 (Kd.R_lt (by (with_reducible repeat (first | apply Kd.R_alloc | apply Kd.R_drewN | apply Kd.R_drew)); exact HO812.out))) (below_size (by repeat (first | (with_reducible first | exact HB.out | apply lA | apply lN | apply lD | refine lS ?_ GE809.out) | exact HB.out)))); have n3_ := MK (blk_below (by (with_reducible repeat (first | refine bN ?_ _ | refine bD ?_ | refine bA ?_ _)); exact BK809.out) hb); have n4_ := MK (below_step (by repeat (first | (with_reducible first | exact HB.out | apply lA | apply lN | apply lD | refine lS ?_ GE809.out) | exact HB.out)) hb); clear HO808; clear HO812; clear BK809; clear HB; have HO808 := n0_; have HO812 := n1_; have HO815 := n2_; have BK809 := n3_; have HB := n4_; clear n0_ n1_ n2_ n3_ n4_; (try clear hb); (try clear hb2); (try clear hk); (try clear hi); (try clear ho0); obtain ⟨Ao14, co14, eo14⟩ := Kd.R_slice HO812.out; subst eo14; obtain ⟨Ao15, co15, eo15⟩ := Kd.R_slice HO815.out; subst eo15))
  (try simp only [Act.put, List.setIfInBounds_toArray, List.set_cons_zero, List.set_cons_succ])
  have H := HC6.out
  clear HC6
  by_cases c16 : (t810.length : Int) = (t813.length : Int)
  ·rw [if_pos c16] at H
   have c16b0 : ((t810.length : Int) == (t813.length : Int)) = true := beq_iff_eq.mpr c16
   have c16b1 : ((t810.length : Int) != (t813.length : Int)) = false := bne_eq_false_iff_eq.mpr c16
   have c16b2 : (t810.length == t813.length) = true := by first | simpa using c16 | (simp at c16 ⊢; omega)
   clear c16
   (first | rw [c16b0] | (simp only [i64_w, i32_w]; rw [c16b0]) | rw [c16b1] | skip)
   have H' := MK H
   clear H
   go_wp2_with (first | ((with_reducible refine gate_dst (N := 7) rfl ?_); refine box_event ?hg (N := 7) ?hd (cs := #[.int .i64 0, .int .i64 0]) (t := 31) ?hr ?_; (case hd => rfl); (case hg => rfl); (case hr => first | (go_simp; done) | (go_simp; rfl)); intro gb816 hg w17 hbox hb; have n0_ := MK (Kd.R_below (by (with_reducible repeat (first | apply Kd.R_alloc | apply Kd.R_drewN | apply Kd.R_drew)); exact HO808.out) hb); have n1_ := MK (Kd.R_below (by (with_reducible repeat (first | apply Kd.R_alloc | apply Kd.R_drewN | apply Kd.R_drew)); exact HO812.out) hb); have n2_ := MK (Kd.R_below (by (with_reducible repeat (first | apply Kd.R_alloc | apply Kd.R_drewN | apply Kd.R_drew)); exact HO815.out) hb); have n3_ := MK (blk_below (by (with_reducible repeat (first | refine bN ?_ _ | refine bD ?_ | refine bA ?_ _)); exact BK809.out) hb); have n4_ := MK (below_step (by repeat (first | (with_reducible first | exact HB.out | apply lA | apply lN | apply lD | refine lS ?_ GE809.out) | exact HB.out)) hb); have n5_ := MK (hbox); have n6_ := MK ((by rw [hg]; exact (below_size (by repeat (first | (with_reducible first | exact HB.out | apply lA | apply lN | apply lD | refine lS ?_ GE809.out) | exact HB.out))) : w.heap.size ≤ gb816)); have n7_ := MK ((by rw [hg]; exact (below_size (by repeat (first | (with_reducible first | exact HB.out | apply lA | apply lN | apply lD | refine lS ?_ GE809.out) | exact HB.out))) : w.heap.size ≤ gb816)); have n8_ := MK ((by rw [hg]; exact Nat.ne_of_lt (blk_lt (by (with_reducible repeat (first | refine bN ?_ _ | refine bD ?_ | refine bA ?_ _)); exact BK809.out)) : gb809 ≠ gb816)); have n9_ := MK ((by rw [hg]; exact Nat.ne_of_gt (blk_lt (by (with_reducible repeat (first | refine bN ?_ _ | refine bD ?_ | refine bA ?_ _)); exact BK809.out)) : gb816 ≠ gb809)); clear HO808; clear HO812; clear HO815; clear BK809; clear HB; have HO808 := n0_; have HO812 := n1_; have HO815 := n2_; have BK809 := n3_; have HB := n4_; have BK816 := n5_; have GW816 := n6_; have GE816 := n7_; have NB809_816 := n8_; have NB816_809 := n9_; clear n0_ n1_ n2_ n3_ n4_ n5_ n6_ n7_ n8_ n9_; clear hb hbox hg; have hnb18 := NB816_809.out; have hnc18 := NB809_816.out; obtain ⟨hcz19_0, hcz19_1⟩ := bc2 BK816.out; obtain ⟨hfz19_0, hfz19_1⟩ := bf2 BK816.out))
   go_loopg [32] k (fun kq v32 w' => ∃ (x32_1 : Int) (x817000_1 : Int) (x817001_1 : Int), v32 = .int .i64 x32_1 ∧ Aside0 (laws_FnRun.l0 kq t806 t810 t813 (t810.length : Int) x32_1 t801 t802 t803 t804 t805 x817000_1 x817001_1 = some r) ∧ Aside0 (kq ≤ k) ∧ Aside0 (Kd.R k44 44 w' w.heap.size (fun _ => True) (.slice Ao10 t806.length co10) t806) ∧ Aside0 (Kd.R k33 33 w' w.heap.size (fun k_ => some k_ ≠ ((.slice Ao15 t813.length co15) : Value).ownBlock) (.slice Ao14 t810.length co14) t810) ∧ Aside0 (Kd.R k33 33 w' w.heap.size (fun k_ => some k_ ≠ ((.slice Ao14 t810.length co14) : Value).ownBlock) (.slice Ao15 t813.length co15) t813) ∧ Aside0 (w'.heap[gb809]? = some (.cells #[.int .i64 t801, .int .i64 t802, .int .i64 t803, .int .i64 t804, .int .i64 t805] 24 (0, 0))) ∧ Aside0 (w'.heap[gb816]? = some (.cells #[.int .i64 x817000_1, .int .i64 x817001_1] 31 (0, 0))) ∧ Aside0 (Below w.heap.size w w'))
   case atStart => exact ⟨(0), (3), ((-1)), (by first | rfl | (simp; done) | (simp [*]; done)), H', ⟨Nat.le_refl _⟩, ⟨by (with_reducible repeat (first | apply Kd.R_alloc | apply Kd.R_drewN | apply Kd.R_drew)); exact Kd.R_mono (Kd.R_far (p := ⟨gb816, 1, none⟩) (Kd.R_far (p := ⟨gb816, 0, none⟩) (Kd.R_types HO808.out BK816.out (by decide)) (fun _ hk => hk.2) (.int .i64 3)) (fun _ hk => hk.2) (.int .i64 (-1))) (fun _ hk => trivial)⟩, ⟨by (with_reducible repeat (first | apply Kd.R_alloc | apply Kd.R_drewN | apply Kd.R_drew)); exact Kd.R_mono (Kd.R_far (p := ⟨gb816, 1, none⟩) (Kd.R_far (p := ⟨gb816, 0, none⟩) (Kd.R_types HO812.out BK816.out (by decide)) (fun _ hk => hk.2) (.int .i64 3)) (fun _ hk => hk.2) (.int .i64 (-1))) (fun _ hk => hk.1.2)⟩, ⟨by (with_reducible repeat (first | apply Kd.R_alloc | apply Kd.R_drewN | apply Kd.R_drew)); exact Kd.R_mono (Kd.R_far (p := ⟨gb816, 1, none⟩) (Kd.R_far (p := ⟨gb816, 0, none⟩) (Kd.R_types HO815.out BK816.out (by decide)) (fun _ hk => hk.2) (.int .i64 3)) (fun _ hk => hk.2) (.int .i64 (-1))) (fun _ hk => hk.1.2)⟩, ⟨by (with_reducible repeat (first | refine bN ?_ _ | refine bD ?_ | refine bA ?_ _)); refine blk_far ?_ NB809_816.out _; (with_reducible repeat (first | refine bN ?_ _ | refine bD ?_ | refine bA ?_ _)); refine blk_far ?_ NB809_816.out _; (with_reducible repeat (first | refine bN ?_ _ | refine bD ?_ | refine bA ?_ _)); exact BK809.out⟩, ⟨by (with_reducible repeat (first | refine bN ?_ _ | refine bD ?_ | refine bA ?_ _)); refine blk_put (cs := #[.int .i64 3, .int .i64 0]) ?_ 1 _ rfl; (with_reducible repeat (first | refine bN ?_ _ | refine bD ?_ | refine bA ?_ _)); refine blk_put (cs := #[.int .i64 0, .int .i64 0]) ?_ 0 _ rfl; (with_reducible repeat (first | refine bN ?_ _ | refine bD ?_ | refine bA ?_ _)); exact BK816.out⟩, ⟨by repeat (first | (with_reducible first | exact HB.out | apply lA | apply lN | apply lD | refine lS ?_ GE809.out | refine lS ?_ GE816.out) | exact HB.out)⟩⟩
   case round =>
    clear H'
    (try clear c2); (try clear c16); (try clear c16b0); (try clear c16b1); (try clear c16b2); (try clear hcz19_0); (try clear hcz19_1); (try clear hfz19_0); (try clear hfz19_1)
    obtain ⟨x32_1, x817000_1, x817001_1, rfl, HA, HK1, HO_4, HO_5, HO_6, BK809, BK816, HB⟩ := hrel
    cases gk with
    | zero => exact absurd HA.out (by simp [laws_FnRun.l0])
    | succ k1 =>
     have H := HA.out
     clear HA
     simp only [laws_FnRun.l0] at H
     by_cases c20 : x32_1 < (t810.length : Int)
     ·rw [if_pos c20] at H
      have c20b0 : decide (x32_1 < (t810.length : Int)) = true := decide_eq_true c20
      clear c20
      by_cases c21 : 0 ≤ x32_1
      ·rw [if_pos c21] at H
       have c21b0 : decide (0 ≤ x32_1) = true := decide_eq_true c21
       clear c21
       by_cases c22 : x32_1 < (t806.length : Int)
       ·rw [if_pos c22] at H
        have c22b0 : decide (x32_1 < (t806.length : Int)) = true := decide_eq_true c22
        clear c22
        replace H := Option.bind_eq_some_iff.mp H
        obtain ⟨⟨t818, t819, t820, t821, t822, t823⟩, A230, H⟩ := H
        replace H : (if x32_1 < (t810.length : Int) then (if x32_1 < (t813.length : Int) then (if (!(((rd_T33 t810 x32_1).f0) == ((rd_T33 t813 x32_1).f0)) || ((!(((rd_T33 t810 x32_1).f1.f0) == ((rd_T33 t813 x32_1).f1.f0)) || (!(((rd_T33 t810 x32_1).f1.f1) == ((rd_T33 t813 x32_1).f1.f1)))) || (!(((rd_T33 t810 x32_1).f2) == ((rd_T33 t813 x32_1).f2)) || (!(((rd_T33 t810 x32_1).f3) == ((rd_T33 t813 x32_1).f3)) || (!(((rd_T33 t810 x32_1).f4) == ((rd_T33 t813 x32_1).f4))))))) = true then (laws_FnRun.j1 k1 t806 t810 t813 (t810.length : Int) x32_1 true t801 t802 t803 t804 t805 t818 t819 t820 t821 t822 t823) else (if (!(t818 == ((rd_T33 t810 x32_1).f0)) || ((!(t819 == ((rd_T33 t810 x32_1).f1.f0)) || (!(t820 == ((rd_T33 t810 x32_1).f1.f1)))) || (!(t821 == ((rd_T33 t810 x32_1).f2)) || (!(t822 == ((rd_T33 t810 x32_1).f3)) || (!(t823 == ((rd_T33 t810 x32_1).f4))))))) = true then (laws_FnRun.j1 k1 t806 t810 t813 (t810.length : Int) x32_1 true t801 t802 t803 t804 t805 t818 t819 t820 t821 t822 t823) else ((impl_GuardOk.f t819 t820).bind fun t828 => (laws_FnRun.j1 k1 t806 t810 t813 (t810.length : Int) x32_1 (!t828) t801 t802 t803 t804 t805 t818 t819 t820 t821 t822 t823)))) else (none)) else (none)) = some r := H
        have A23 := MK A230
        clear A230
        have HC24 := MK H
        clear H
        try go_wp2
        have n0_ := MK (Kd.R_drew HO_4.out)
        have n1_ := MK (Kd.R_drew HO_5.out)
        have n2_ := MK (Kd.R_drew HO_6.out)
        have n3_ := MK (bD BK809.out)
        have n4_ := MK (bD BK816.out)
        have n5_ := MK (lD HB.out)
        clear HO_4 HO_5 HO_6 BK809 BK816 HB
        have HO_4 := n0_
        have HO_5 := n1_
        have HO_6 := n2_
        have BK809 := n3_
        have BK816 := n4_
        have HB := n5_
        clear n0_ n1_ n2_ n3_ n4_ n5_
        have p817 : 0 ≤ (x32_1 : Int) := of_decide_eq_true (by first | (with_reducible assumption) | assumption)
        have q817 : x32_1 < (t806.length : Int) := of_decide_eq_true (by first | (with_reducible assumption) | assumption)
        obtain ⟨ad817, e817, hx817_0, hx817_1, hx817_2, hx817_3, hx817_4⟩ := at_T44 (Kd.R_reads' HO_4.out).2.2 x32_1 p817 q817
        cases e817
        replace p817 := eq_true p817
        replace q817 := eq_true q817
        refine start_ (n := 9) (S := fun w' => True) (ds := []) #[false, false, false, false, false, false, false, false, false] (by kernel_rfl) rfl rfl trivial (fun hHeld => ?_); refine with_tabW laws_FnRun.tab12 laws_FnRun.bits12 (fun HT_ HW_ => ?_)
        generalize wr.drew = w25 at HO_4 HO_5 HO_6 BK809 BK816 HB hx817_0 hx817_1 hx817_2 hx817_3 hx817_4 hHeld ⊢
        refine pure_ (i := 2) (N := some 37) (v := ?_) (a' := ?_) #[false, false, true, false, false, false, false, false, false] rfl rfl (any_of HT_.out (by kernel_rfl)) (fun _ _ _ h => h) (Or.inl ⟨by rfl, ?_⟩) ?_ ?_
        rotate_left
        ·intro w'; go_simp; with_reducible rfl
        rotate_left
        ·simp only [Act.put, List.setIfInBounds_toArray, List.set_cons_zero, List.set_cons_succ, i64_w, i32_w]; rfl
        refine pure_ (i := 3) (N := some 38) (v := ?_) (a' := ?_) #[false, false, true, true, false, false, false, false, false] rfl rfl (any_of HT_.out (by kernel_rfl)) (fun _ _ _ h => h) (Or.inl ⟨by rfl, ?_⟩) ?_ ?_
        rotate_left
        ·intro w'; go_simp; with_reducible rfl
        rotate_left
        ·simp only [Act.put, List.setIfInBounds_toArray, List.set_cons_zero, List.set_cons_succ, i64_w, i32_w]; rfl
        refine inv_at [0, 1, 4, 5, 6, 7, 8] (fun a0_ b a w' => ∃ (gb824 : Nat) (m7_ : Value), a = putSel a0_ b [(0, 35, .agg #[.int .i64 t801, .int .i64 t802, .int .i64 t803, .int .i64 t804, .int .i64 t805]), (1, 36, .agg #[.int .i64 x817000_1, .int .i64 x817001_1]), (4, 39, .pointer (some (ad817.add ((x32_1).toNat * 5)))), (5, 40, .agg #[.int .i64 ((rd_T44 t806 x32_1).f0), .int .i64 ((rd_T44 t806 x32_1).f1), .int .i64 ((rd_T44 t806 x32_1).f2), .int .i64 ((rd_T44 t806 x32_1).f3), .bool ((rd_T44 t806 x32_1).f4)]), (6, 41, .agg #[.bool t818, .int .i64 t819, .int .i64 t820, .int .i64 t821, .bool t822, .bool t823]), (7, 9, m7_)] ∧ (Kd.R k44 44 w' w.heap.size (fun _ => True) (.slice (some ad817) t806.length co10) t806) ∧ (b 7 = false → Kd.R k33 33 w' w.heap.size (fun k_ => some k_ ≠ (.slice Ao15 t813.length co15 : Value).ownBlock) (.slice Ao14 t810.length co14) t810) ∧ (b 7 = false → Kd.R k33 33 w' w.heap.size (fun k_ => some k_ ≠ (.slice Ao14 t810.length co14 : Value).ownBlock) (.slice Ao15 t813.length co15) t813) ∧ (w'.heap[gb809]? = some (.cells #[.int .i64 t801, .int .i64 t802, .int .i64 t803, .int .i64 t804, .int .i64 t805] 24 (0, 0))) ∧ (w'.heap[gb816]? = some (.cells #[.int .i64 x817000_1, .int .i64 x817001_1] 31 (0, 0))) ∧ (Below w.heap.size w w') ∧ (b 7 = true → Kd.R k33 33 w' w.heap.size (fun k_ => some k_ ≠ (.slice Ao15 t813.length co15 : Value).ownBlock ∧ k_ ≠ gb824) (.slice Ao14 t810.length co14) t810) ∧ (b 7 = true → Kd.R k33 33 w' w.heap.size (fun k_ => some k_ ≠ (.slice Ao14 t810.length co14 : Value).ownBlock ∧ k_ ≠ gb824) (.slice Ao15 t813.length co15) t813) ∧ (b 7 = true → b 8 = false → w'.heap[gb824]? = some (.cells #[.bool false, .int .i64 0, .int .i64 0, .int .i64 0, .bool false, .bool false] 33 (0, 0))) ∧ (b 7 = true → w.heap.size ≤ gb824) ∧ (b 7 = true → w.heap.size ≤ gb824) ∧ (b 7 = true → gb809 ≠ gb824) ∧ (b 7 = true → gb824 ≠ gb809) ∧ (b 7 = true → gb816 ≠ gb824) ∧ (b 7 = true → gb824 ≠ gb816) ∧ (b 8 = true → w'.heap[gb824]? = some (.cells #[.bool t818, .int .i64 t819, .int .i64 t820, .int .i64 t821, .bool t822, .bool t823] 33 (0, 0))) ∧ (b 7 = true → (m7_ : Value) = .pointer (some ⟨gb824, 0, none⟩))) HT_.out HW_.out (by kernel_rfl) (by kernel_rfl) ?_ ?_ ?_
        ·exact ⟨0, .bool false, by simp only [putSel, Bool.false_eq_true, if_false], HO_4.out, fun _ => HO_5.out, fun _ => HO_6.out, BK809.out, BK816.out, HB.out, fun h_ => absurd h_ (by decide), fun h_ => absurd h_ (by decide), fun h_ => absurd h_ (by decide), fun h_ => absurd h_ (by decide), fun h_ => absurd h_ (by decide), fun h_ => absurd h_ (by decide), fun h_ => absurd h_ (by decide), fun h_ => absurd h_ (by decide), fun h_ => absurd h_ (by decide), fun h_ => absurd h_ (by decide), fun h_ => absurd h_ (by decide)⟩
        ·skip
         clear BK809 BK816 HB HO_4 HO_5 HO_6
         refine steps_cons ?_ ?_
         ·rintro b a w' ⟨gb824, m7_, ha, Q_HO_4, Q_HO_5, Q_HO_6, Q_BK809, Q_BK816, Q_HB, Q_HO_5_e7, Q_HO_6_e7, Q_BK824, Q_GW824, Q_GE824, Q_NB809_824, Q_NB824_809, Q_NB816_824, Q_NB824_816, Q_BK824_e8, Q_X7_⟩ hb_ hon hoff
          refine ⟨_, rfl, fun K hK => ?_⟩
          have e3 : a.tmps[3]? = some (.pointer (some ⟨gb809, 0, none⟩)) := by rw [ha]; exact (putSel_off rfl).trans rfl
          replace ha := MK ha
          have HO_4 := MK Q_HO_4
          have BK809 := MK Q_BK809
          have BK816 := MK Q_BK816
          have HB := MK Q_HB
          have hc0_ : w'.cell? ⟨gb809, 0, none⟩ = some (.int .i64 t801) := (blk_cell BK809.out 0).trans rfl
          have hc1_ : w'.cell? ⟨gb809, 1, none⟩ = some (.int .i64 t802) := (blk_cell BK809.out 1).trans rfl
          have hc2_ : w'.cell? ⟨gb809, 2, none⟩ = some (.int .i64 t803) := (blk_cell BK809.out 2).trans rfl
          have hc3_ : w'.cell? ⟨gb809, 3, none⟩ = some (.int .i64 t804) := (blk_cell BK809.out 3).trans rfl
          have hc4_ : w'.cell? ⟨gb809, 4, none⟩ = some (.int .i64 t805) := (blk_cell BK809.out 4).trans rfl
          refine value_ (w1 := w') (v := .agg #[.int .i64 t801, .int .i64 t802, .int .i64 t803, .int .i64 t804, .int .i64 t805]) (by rfl) rfl ?_ ?_
          ·go_simp
           (try simp only [i64_w])
           try rfl
          refine hK.out _ _ ⟨gb824, m7_, (by rw [ha.out]; exact putSel_upk 0 hb_ rfl rfl rfl), Q_HO_4, Q_HO_5, Q_HO_6, Q_BK809, Q_BK816, Q_HB, Q_HO_5_e7, Q_HO_6_e7, Q_BK824, Q_GW824, Q_GE824, Q_NB809_824, Q_NB824_809, Q_NB816_824, Q_NB824_816, fun h0_ => absurd ((hoff 8 (by kernel_rfl)).symm.trans h0_) (by decide), Q_X7_⟩
         refine steps_cons ?_ ?_
         ·rintro b a w' ⟨gb824, m7_, ha, Q_HO_4, Q_HO_5, Q_HO_6, Q_BK809, Q_BK816, Q_HB, Q_HO_5_e7, Q_HO_6_e7, Q_BK824, Q_GW824, Q_GE824, Q_NB809_824, Q_NB824_809, Q_NB816_824, Q_NB824_816, Q_BK824_e8, Q_X7_⟩ hb_ hon hoff
          refine ⟨_, rfl, fun K hK => ?_⟩
          have e7 : a.tmps[7]? = some (.pointer (some ⟨gb816, 0, none⟩)) := by rw [ha]; exact (putSel_off rfl).trans rfl
          replace ha := MK ha
          have HO_4 := MK Q_HO_4
          have BK809 := MK Q_BK809
          have BK816 := MK Q_BK816
          have HB := MK Q_HB
          have hc0_ : w'.cell? ⟨gb816, 0, none⟩ = some (.int .i64 x817000_1) := (blk_cell BK816.out 0).trans rfl
          have hc1_ : w'.cell? ⟨gb816, 1, none⟩ = some (.int .i64 x817001_1) := (blk_cell BK816.out 1).trans rfl
          refine value_ (w1 := w') (v := .agg #[.int .i64 x817000_1, .int .i64 x817001_1]) (by rfl) rfl ?_ ?_
          ·go_simp
           (try simp only [i64_w])
           try rfl
          refine hK.out _ _ ⟨gb824, m7_, (by rw [ha.out]; exact putSel_upk 1 hb_ rfl rfl rfl), Q_HO_4, Q_HO_5, Q_HO_6, Q_BK809, Q_BK816, Q_HB, Q_HO_5_e7, Q_HO_6_e7, Q_BK824, Q_GW824, Q_GE824, Q_NB809_824, Q_NB824_809, Q_NB816_824, Q_NB824_816, fun h0_ => absurd ((hoff 8 (by kernel_rfl)).symm.trans h0_) (by decide), Q_X7_⟩
         refine steps_cons ?_ ?_
         ·rintro b a w' ⟨gb824, m7_, ha, Q_HO_4, Q_HO_5, Q_HO_6, Q_BK809, Q_BK816, Q_HB, Q_HO_5_e7, Q_HO_6_e7, Q_BK824, Q_GW824, Q_GE824, Q_NB809_824, Q_NB824_809, Q_NB816_824, Q_NB824_816, Q_BK824_e8, Q_X7_⟩ hb_ hon hoff
          refine ⟨_, rfl, fun K hK => ?_⟩
          have e37 : a.tmps[37]? = some (.slice (some ad817) t806.length co10) := by rw [ha]; exact (putSel_off rfl).trans rfl
          have e38 : a.tmps[38]? = some (.int .i64 x32_1) := by rw [ha]; exact (putSel_off rfl).trans rfl
          replace ha := MK ha
          have HO_4 := MK Q_HO_4
          have BK809 := MK Q_BK809
          have BK816 := MK Q_BK816
          have HB := MK Q_HB
          refine value_ (w1 := w') (v := .pointer (some (ad817.add ((x32_1).toNat * 5)))) (by rfl) rfl ?_ ?_
          ·go_simp
           (try simp only [i64_w])
           try rfl
          refine hK.out _ _ ⟨gb824, m7_, (by rw [ha.out]; exact putSel_upk 2 hb_ rfl rfl rfl), Q_HO_4, Q_HO_5, Q_HO_6, Q_BK809, Q_BK816, Q_HB, Q_HO_5_e7, Q_HO_6_e7, Q_BK824, Q_GW824, Q_GE824, Q_NB809_824, Q_NB824_809, Q_NB816_824, Q_NB824_816, fun h0_ => absurd ((hoff 8 (by kernel_rfl)).symm.trans h0_) (by decide), Q_X7_⟩
         refine steps_cons ?_ ?_
         ·rintro b a w' ⟨gb824, m7_, ha, Q_HO_4, Q_HO_5, Q_HO_6, Q_BK809, Q_BK816, Q_HB, Q_HO_5_e7, Q_HO_6_e7, Q_BK824, Q_GW824, Q_GE824, Q_NB809_824, Q_NB824_809, Q_NB816_824, Q_NB824_816, Q_BK824_e8, Q_X7_⟩ hb_ hon hoff
          refine ⟨_, rfl, fun K hK => ?_⟩
          have e39 : a.tmps[39]? = some (.pointer (some (ad817.add ((x32_1).toNat * 5)))) := by rw [ha]; exact putSel_on (e := (4, 39, .pointer (some (ad817.add ((x32_1).toNat * 5))))) 2 rfl rfl (hon 4 (by kernel_rfl)) rfl
          replace ha := MK ha
          have HO_4 := MK Q_HO_4
          have BK809 := MK Q_BK809
          have BK816 := MK Q_BK816
          have HB := MK Q_HB
          obtain ⟨ad817_z, e817_z, hx817_0_z, hx817_1_z, hx817_2_z, hx817_3_z, hx817_4_z⟩ := at_T44 (Kd.R_reads' HO_4.out).2.2 x32_1 (of_eq_true p817) (of_eq_true q817)
          cases e817_z
          have hs0_ : w'.cell? (ad817.add ((x32_1).toNat * 5)) = some (.int .i64 ((rd_T44 t806 x32_1).f0)) := (by first | exact hx817_0_z | (have h_ := hx817_0_z; (try simp only [Int.reduceToNat, Nat.zero_mul, Nat.reduceMul, Nat.reduceEqDiff, Go.Addr.add, ↓reduceIte, Addr.add_zero'] at h_); exact h_))
          have hs1_ : w'.cell? ⟨(ad817.add ((x32_1).toNat * 5)).block, (ad817.add ((x32_1).toNat * 5)).off + 1, none⟩ = some (.int .i64 ((rd_T44 t806 x32_1).f1)) := (by first | exact hx817_1_z | (have h_ := hx817_1_z; (try simp only [Int.reduceToNat, Nat.zero_mul, Nat.reduceMul, Nat.reduceEqDiff, Go.Addr.add, ↓reduceIte, Addr.add_zero'] at h_); exact h_))
          have hs2_ : w'.cell? ⟨(ad817.add ((x32_1).toNat * 5)).block, (ad817.add ((x32_1).toNat * 5)).off + 2, none⟩ = some (.int .i64 ((rd_T44 t806 x32_1).f2)) := (by first | exact hx817_2_z | (have h_ := hx817_2_z; (try simp only [Int.reduceToNat, Nat.zero_mul, Nat.reduceMul, Nat.reduceEqDiff, Go.Addr.add, ↓reduceIte, Addr.add_zero'] at h_); exact h_))
          have hs3_ : w'.cell? ⟨(ad817.add ((x32_1).toNat * 5)).block, (ad817.add ((x32_1).toNat * 5)).off + 3, none⟩ = some (.int .i64 ((rd_T44 t806 x32_1).f3)) := (by first | exact hx817_3_z | (have h_ := hx817_3_z; (try simp only [Int.reduceToNat, Nat.zero_mul, Nat.reduceMul, Nat.reduceEqDiff, Go.Addr.add, ↓reduceIte, Addr.add_zero'] at h_); exact h_))
          have hs4_ : w'.cell? ⟨(ad817.add ((x32_1).toNat * 5)).block, (ad817.add ((x32_1).toNat * 5)).off + 4, none⟩ = some (.bool ((rd_T44 t806 x32_1).f4)) := (by first | exact hx817_4_z | (have h_ := hx817_4_z; (try simp only [Int.reduceToNat, Nat.zero_mul, Nat.reduceMul, Nat.reduceEqDiff, Go.Addr.add, ↓reduceIte, Addr.add_zero'] at h_); exact h_))
          refine value_ (w1 := w') (v := .agg #[.int .i64 ((rd_T44 t806 x32_1).f0), .int .i64 ((rd_T44 t806 x32_1).f1), .int .i64 ((rd_T44 t806 x32_1).f2), .int .i64 ((rd_T44 t806 x32_1).f3), .bool ((rd_T44 t806 x32_1).f4)]) (by rfl) rfl ?_ ?_
          ·go_simp
           (try simp only [i64_w])
           try rfl
          refine hK.out _ _ ⟨gb824, m7_, (by rw [ha.out]; exact putSel_upk 3 hb_ rfl rfl rfl), Q_HO_4, Q_HO_5, Q_HO_6, Q_BK809, Q_BK816, Q_HB, Q_HO_5_e7, Q_HO_6_e7, Q_BK824, Q_GW824, Q_GE824, Q_NB809_824, Q_NB824_809, Q_NB816_824, Q_NB824_816, fun h0_ => absurd ((hoff 8 (by kernel_rfl)).symm.trans h0_) (by decide), Q_X7_⟩
         refine steps_cons ?_ ?_
         ·rintro b a w' ⟨gb824, m7_, ha, Q_HO_4, Q_HO_5, Q_HO_6, Q_BK809, Q_BK816, Q_HB, Q_HO_5_e7, Q_HO_6_e7, Q_BK824, Q_GW824, Q_GE824, Q_NB809_824, Q_NB824_809, Q_NB816_824, Q_NB824_816, Q_BK824_e8, Q_X7_⟩ hb_ hon hoff
          refine ⟨_, rfl, fun K hK => ?_⟩
          have e35 : a.tmps[35]? = some (.agg #[.int .i64 t801, .int .i64 t802, .int .i64 t803, .int .i64 t804, .int .i64 t805]) := by rw [ha]; exact putSel_on (e := (0, 35, .agg #[.int .i64 t801, .int .i64 t802, .int .i64 t803, .int .i64 t804, .int .i64 t805])) 0 rfl rfl (hon 0 (by kernel_rfl)) rfl
          have e36 : a.tmps[36]? = some (.agg #[.int .i64 x817000_1, .int .i64 x817001_1]) := by rw [ha]; exact putSel_on (e := (1, 36, .agg #[.int .i64 x817000_1, .int .i64 x817001_1])) 1 rfl rfl (hon 1 (by kernel_rfl)) rfl
          have e40 : a.tmps[40]? = some (.agg #[.int .i64 ((rd_T44 t806 x32_1).f0), .int .i64 ((rd_T44 t806 x32_1).f1), .int .i64 ((rd_T44 t806 x32_1).f2), .int .i64 ((rd_T44 t806 x32_1).f3), .bool ((rd_T44 t806 x32_1).f4)]) := by rw [ha]; exact putSel_on (e := (5, 40, .agg #[.int .i64 ((rd_T44 t806 x32_1).f0), .int .i64 ((rd_T44 t806 x32_1).f1), .int .i64 ((rd_T44 t806 x32_1).f2), .int .i64 ((rd_T44 t806 x32_1).f3), .bool ((rd_T44 t806 x32_1).f4)])) 3 rfl rfl (hon 5 (by kernel_rfl)) rfl
          replace ha := MK ha
          have HO_4 := MK Q_HO_4
          have BK809 := MK Q_BK809
          have BK816 := MK Q_BK816
          have HB := MK Q_HB
          refine goes_ Try.func21 (by kernel_rfl) rfl #[.agg #[.int .i64 t801, .int .i64 t802, .int .i64 t803, .int .i64 t804, .int .i64 t805], .agg #[.int .i64 x817000_1, .int .i64 x817001_1], .agg #[.int .i64 ((rd_T44 t806 x32_1).f0), .int .i64 ((rd_T44 t806 x32_1).f1), .int .i64 ((rd_T44 t806 x32_1).f2), .int .i64 ((rd_T44 t806 x32_1).f3), .bool ((rd_T44 t806 x32_1).f4)]] (by rfl) rfl rfl (by first | (simp only [List.map_toArray, List.map_cons, List.map_nil, Act.eval, Array.getD_eq_getD_getElem?, Option.getD_some, e35, e36, e40]; done) | (simp only [List.map_toArray, List.map_cons, List.map_nil, Act.eval, Array.getD_eq_getD_getElem?, Option.getD_some, e35, e36, e40]; rfl)) ?_
          with_reducible refine (impl_Tick.calls k1 t801 t802 t803 t804 t805 x817000_1 x817001_1 ((rd_T44 t806 x32_1).f0) ((rd_T44 t806 x32_1).f1) ((rd_T44 t806 x32_1).f2) ((rd_T44 t806 x32_1).f3) ((rd_T44 t806 x32_1).f4) t818 t819 t820 t821 t822 t823 _ A23.out).mono ?_
          rintro e w26 ⟨rfl, hb⟩
          refine ⟨_, rfl, ?_⟩
          have n0_ := MK (Kd.R_below (by (with_reducible repeat (first | apply Kd.R_alloc | apply Kd.R_drewN | apply Kd.R_drew)); exact HO_4.out) hb)
          have n3_ := MK (blk_below (by (with_reducible repeat (first | refine bN ?_ _ | refine bD ?_ | refine bA ?_ _)); exact BK809.out) hb)
          have n4_ := MK (blk_below (by (with_reducible repeat (first | refine bN ?_ _ | refine bD ?_ | refine bA ?_ _)); exact BK816.out) hb)
          have n5_ := MK (below_step (by repeat (first | (with_reducible first | exact HB.out | apply lA | apply lN | apply lD | refine lS ?_ GE809.out | refine lS ?_ GE816.out) | exact HB.out)) hb)
          have z_HO_5 := fun (h0_ : b 7 = false) => (show Kd.R k33 33 w26 w.heap.size (fun k_ => some k_ ≠ (.slice Ao15 t813.length co15 : Value).ownBlock) (.slice Ao14 t810.length co14) t810 from by first | exact (Kd.R_below (by (with_reducible repeat (first | apply Kd.R_alloc | apply Kd.R_drewN | apply Kd.R_drew)); exact (Q_HO_5 h0_)) hb) | exact Kd.R_mono (Kd.R_below (by (with_reducible repeat (first | apply Kd.R_alloc | apply Kd.R_drewN | apply Kd.R_drew)); exact (Q_HO_5 h0_)) hb) (fun _ h_ => by first | trivial | exact h_ | exact h_.1))
          have z_HO_6 := fun (h0_ : b 7 = false) => (show Kd.R k33 33 w26 w.heap.size (fun k_ => some k_ ≠ (.slice Ao14 t810.length co14 : Value).ownBlock) (.slice Ao15 t813.length co15) t813 from by first | exact (Kd.R_below (by (with_reducible repeat (first | apply Kd.R_alloc | apply Kd.R_drewN | apply Kd.R_drew)); exact (Q_HO_6 h0_)) hb) | exact Kd.R_mono (Kd.R_below (by (with_reducible repeat (first | apply Kd.R_alloc | apply Kd.R_drewN | apply Kd.R_drew)); exact (Q_HO_6 h0_)) hb) (fun _ h_ => by first | trivial | exact h_ | exact h_.1))
          have z_HO_5_e7 := fun (h0_ : b 7 = true) => (show Kd.R k33 33 w26 w.heap.size (fun k_ => some k_ ≠ (.slice Ao15 t813.length co15 : Value).ownBlock ∧ k_ ≠ gb824) (.slice Ao14 t810.length co14) t810 from by first | exact (Kd.R_below (by (with_reducible repeat (first | apply Kd.R_alloc | apply Kd.R_drewN | apply Kd.R_drew)); exact (Q_HO_5_e7 h0_)) hb) | exact Kd.R_mono (Kd.R_below (by (with_reducible repeat (first | apply Kd.R_alloc | apply Kd.R_drewN | apply Kd.R_drew)); exact (Q_HO_5_e7 h0_)) hb) (fun _ h_ => by first | trivial | exact h_ | exact h_.1))
          have z_HO_6_e7 := fun (h0_ : b 7 = true) => (show Kd.R k33 33 w26 w.heap.size (fun k_ => some k_ ≠ (.slice Ao14 t810.length co14 : Value).ownBlock ∧ k_ ≠ gb824) (.slice Ao15 t813.length co15) t813 from by first | exact (Kd.R_below (by (with_reducible repeat (first | apply Kd.R_alloc | apply Kd.R_drewN | apply Kd.R_drew)); exact (Q_HO_6_e7 h0_)) hb) | exact Kd.R_mono (Kd.R_below (by (with_reducible repeat (first | apply Kd.R_alloc | apply Kd.R_drewN | apply Kd.R_drew)); exact (Q_HO_6_e7 h0_)) hb) (fun _ h_ => by first | trivial | exact h_ | exact h_.1))
          have z_BK824 := fun (h0_ : b 7 = true) (h1_ : b 8 = false) => (show w26.heap[gb824]? = some (.cells #[.bool false, .int .i64 0, .int .i64 0, .int .i64 0, .bool false, .bool false] 33 (0, 0)) from by first | exact (blk_below (g := gb824) (o := .cells #[.bool false, .int .i64 0, .int .i64 0, .int .i64 0, .bool false, .bool false] 33 (0, 0)) (by (with_reducible repeat (first | refine bN ?_ _ | refine bD ?_ | refine bA ?_ _)); exact (Q_BK824 h0_ h1_)) hb))
          clear HO_4 BK809 BK816 HB
          have HO_4 := n0_
          have BK809 := n3_
          have BK816 := n4_
          have HB := n5_
          clear n0_ n3_ n4_ n5_
          (try clear hb)
          (try clear hb2)
          (try clear hk)
          (try clear hi)
          refine hK.out _ _ ⟨gb824, m7_, (by rw [ha.out]; exact putSel_upk 4 hb_ rfl rfl rfl), (by (with_reducible repeat (first | apply Kd.R_alloc | apply Kd.R_drewN | apply Kd.R_drew)); exact HO_4.out), z_HO_5, z_HO_6, (by (with_reducible repeat (first | refine bN ?_ _ | refine bD ?_ | refine bA ?_ _)); exact BK809.out), (by (with_reducible repeat (first | refine bN ?_ _ | refine bD ?_ | refine bA ?_ _)); exact BK816.out), (by repeat (first | (with_reducible first | exact HB.out | apply lA | apply lN | apply lD | refine lS ?_ GE809.out | refine lS ?_ GE816.out) | exact HB.out)), z_HO_5_e7, z_HO_6_e7, z_BK824, Q_GW824, Q_GE824, Q_NB809_824, Q_NB824_809, Q_NB816_824, Q_NB824_816, fun h0_ => absurd ((hoff 8 (by kernel_rfl)).symm.trans h0_) (by decide), Q_X7_⟩
         refine steps_cons ?_ ?_
         ·rintro b a w' ⟨gb824, m7_, ha, Q_HO_4, Q_HO_5, Q_HO_6, Q_BK809, Q_BK816, Q_HB, Q_HO_5_e7, Q_HO_6_e7, Q_BK824, Q_GW824, Q_GE824, Q_NB809_824, Q_NB824_809, Q_NB816_824, Q_NB824_816, Q_BK824_e8, Q_X7_⟩ hb_ hon hoff
          refine ⟨_, rfl, fun K hK => ?_⟩
          replace ha := MK ha
          have HO_4 := MK Q_HO_4
          have HO_5 := MK (Q_HO_5 hb_)
          have HO_6 := MK (Q_HO_6 hb_)
          have BK809 := MK Q_BK809
          have BK816 := MK Q_BK816
          have HB := MK Q_HB
          refine box_step ?hg (N := 9) ?hd (cs := #[.bool false, .int .i64 0, .int .i64 0, .int .i64 0, .bool false, .bool false]) (t := 33) ?hr ?_; (case hd => rfl); (case hg => rfl); (case hr => first | (go_simp; done) | (go_simp; rfl))
          intro gb824 hg w26 hbox hb
          have n0_ := MK (Kd.R_below (by (with_reducible repeat (first | apply Kd.R_alloc | apply Kd.R_drewN | apply Kd.R_drew)); exact HO_4.out) hb)
          have n1_ := MK (Kd.R_below (Kd.R_elderB (by (with_reducible repeat (first | apply Kd.R_alloc | apply Kd.R_drewN | apply Kd.R_drew)); exact HO_5.out) gb824 (Nat.le_of_eq hg.symm)) hb)
          have n2_ := MK (Kd.R_below (Kd.R_elderB (by (with_reducible repeat (first | apply Kd.R_alloc | apply Kd.R_drewN | apply Kd.R_drew)); exact HO_6.out) gb824 (Nat.le_of_eq hg.symm)) hb)
          have n3_ := MK (blk_below (by (with_reducible repeat (first | refine bN ?_ _ | refine bD ?_ | refine bA ?_ _)); exact BK809.out) hb)
          have n4_ := MK (blk_below (by (with_reducible repeat (first | refine bN ?_ _ | refine bD ?_ | refine bA ?_ _)); exact BK816.out) hb)
          have n5_ := MK (below_step (by repeat (first | (with_reducible first | exact HB.out | apply lA | apply lN | apply lD | refine lS ?_ GE809.out | refine lS ?_ GE816.out) | exact HB.out)) hb)
          have n6_ := MK (hbox)
          have n7_ := MK ((by rw [hg]; exact (below_size (by repeat (first | (with_reducible first | exact HB.out | apply lA | apply lN | apply lD | refine lS ?_ GE809.out | refine lS ?_ GE816.out) | exact HB.out))) : w.heap.size ≤ gb824))
          have n8_ := MK ((by rw [hg]; exact (below_size (by repeat (first | (with_reducible first | exact HB.out | apply lA | apply lN | apply lD | refine lS ?_ GE809.out | refine lS ?_ GE816.out) | exact HB.out))) : w.heap.size ≤ gb824))
          have n9_ := MK ((by rw [hg]; exact Nat.ne_of_lt (blk_lt (by (with_reducible repeat (first | refine bN ?_ _ | refine bD ?_ | refine bA ?_ _)); exact BK809.out)) : gb809 ≠ gb824))
          have n10_ := MK ((by rw [hg]; exact Nat.ne_of_gt (blk_lt (by (with_reducible repeat (first | refine bN ?_ _ | refine bD ?_ | refine bA ?_ _)); exact BK809.out)) : gb824 ≠ gb809))
          have n11_ := MK ((by rw [hg]; exact Nat.ne_of_lt (blk_lt (by (with_reducible repeat (first | refine bN ?_ _ | refine bD ?_ | refine bA ?_ _)); exact BK816.out)) : gb816 ≠ gb824))
          have n12_ := MK ((by rw [hg]; exact Nat.ne_of_gt (blk_lt (by (with_reducible repeat (first | refine bN ?_ _ | refine bD ?_ | refine bA ?_ _)); exact BK816.out)) : gb824 ≠ gb816))
          clear HO_4 HO_5 HO_6 BK809 BK816 HB
          have HO_4 := n0_
          have HO_5 := n1_
          have HO_6 := n2_
          have BK809 := n3_
          have BK816 := n4_
          have HB := n5_
          have BK824 := n6_
          have GW824 := n7_
          have GE824 := n8_
          have NB809_824 := n9_
          have NB824_809 := n10_
          have NB816_824 := n11_
          have NB824_816 := n12_
          clear n0_ n1_ n2_ n3_ n4_ n5_ n6_ n7_ n8_ n9_ n10_ n11_ n12_
          clear hb hbox hg
          refine hK.out _ _ ⟨gb824, (.pointer (some ⟨gb824, 0, none⟩)), (by rw [ha.out]; exact putSel_upk 5 hb_ rfl rfl rfl), (by (with_reducible repeat (first | apply Kd.R_alloc | apply Kd.R_drewN | apply Kd.R_drew)); exact HO_4.out), fun h0_ => absurd ((up_self b 7).symm.trans h0_) (by decide), fun h0_ => absurd ((up_self b 7).symm.trans h0_) (by decide), (by (with_reducible repeat (first | refine bN ?_ _ | refine bD ?_ | refine bA ?_ _)); exact BK809.out), (by (with_reducible repeat (first | refine bN ?_ _ | refine bD ?_ | refine bA ?_ _)); exact BK816.out), (by repeat (first | (with_reducible first | exact HB.out | apply lA | apply lN | apply lD | refine lS ?_ GE809.out | refine lS ?_ GE816.out | refine lS ?_ GE824.out) | exact HB.out)), fun _ => (by (with_reducible repeat (first | apply Kd.R_alloc | apply Kd.R_drewN | apply Kd.R_drew)); exact HO_5.out), fun _ => (by (with_reducible repeat (first | apply Kd.R_alloc | apply Kd.R_drewN | apply Kd.R_drew)); exact HO_6.out), fun _ _ => (by (with_reducible repeat (first | refine bN ?_ _ | refine bD ?_ | refine bA ?_ _)); exact BK824.out), fun _ => GW824.out, fun _ => GE824.out, fun _ => NB809_824.out, fun _ => NB824_809.out, fun _ => NB816_824.out, fun _ => NB824_816.out, fun h0_ => absurd ((hoff 8 (by kernel_rfl)).symm.trans h0_) (by decide), fun _ => rfl⟩
         refine steps_cons ?_ ?_
         ·rintro b a w' ⟨gb824, m7_, ha, Q_HO_4, Q_HO_5, Q_HO_6, Q_BK809, Q_BK816, Q_HB, Q_HO_5_e7, Q_HO_6_e7, Q_BK824, Q_GW824, Q_GE824, Q_NB809_824, Q_NB824_809, Q_NB816_824, Q_NB824_816, Q_BK824_e8, Q_X7_⟩ hb_ hon hoff
          refine ⟨_, rfl, fun K hK => ?_⟩
          have e9 : a.tmps[9]? = some (m7_) := by rw [ha]; exact putSel_on (e := (7, 9, m7_)) 5 rfl rfl (hon 7 (by kernel_rfl)) rfl
          rw [Q_X7_ (hon 7 (by kernel_rfl))] at e9
          have e41 : a.tmps[41]? = some (.agg #[.bool t818, .int .i64 t819, .int .i64 t820, .int .i64 t821, .bool t822, .bool t823]) := by rw [ha]; exact putSel_on (e := (6, 41, .agg #[.bool t818, .int .i64 t819, .int .i64 t820, .int .i64 t821, .bool t822, .bool t823])) 4 rfl rfl (hon 6 (by kernel_rfl)) rfl
          replace ha := MK ha
          have HO_4 := MK Q_HO_4
          have BK809 := MK Q_BK809
          have BK816 := MK Q_BK816
          have HB := MK Q_HB
          have HO_5 := MK (Q_HO_5_e7 (hon 7 (by kernel_rfl)))
          have HO_6 := MK (Q_HO_6_e7 (hon 7 (by kernel_rfl)))
          have BK824 := MK (Q_BK824 (hon 7 (by kernel_rfl)) hb_)
          have GW824 := MK (Q_GW824 (hon 7 (by kernel_rfl)))
          have GE824 := MK (Q_GE824 (hon 7 (by kernel_rfl)))
          have NB809_824 := MK (Q_NB809_824 (hon 7 (by kernel_rfl)))
          have NB824_809 := MK (Q_NB824_809 (hon 7 (by kernel_rfl)))
          have NB816_824 := MK (Q_NB816_824 (hon 7 (by kernel_rfl)))
          have NB824_816 := MK (Q_NB824_816 (hon 7 (by kernel_rfl)))
          have hs29 : w'.cell? ⟨gb824, 0, none⟩ = some (.bool false) := (blk_cell BK824.out 0).trans rfl
          have hfs29 := blk_frozen BK824.out 0
          have hns29_0 := NB809_824.out
          have hns29_1 := NB816_824.out
          have hms29_0 := NB824_809.out
          have hms29_1 := NB824_816.out
          have hs30 : w'.cell? ⟨gb824, 1, none⟩ = some (.int .i64 0) := (blk_cell BK824.out 1).trans rfl
          have hfs30 := blk_frozen BK824.out 1
          have hs31 : w'.cell? ⟨gb824, 2, none⟩ = some (.int .i64 0) := (blk_cell BK824.out 2).trans rfl
          have hfs31 := blk_frozen BK824.out 2
          have hs32 : w'.cell? ⟨gb824, 3, none⟩ = some (.int .i64 0) := (blk_cell BK824.out 3).trans rfl
          have hfs32 := blk_frozen BK824.out 3
          have hs33 : w'.cell? ⟨gb824, 4, none⟩ = some (.bool false) := (blk_cell BK824.out 4).trans rfl
          have hfs33 := blk_frozen BK824.out 4
          have hs34 : w'.cell? ⟨gb824, 5, none⟩ = some (.bool false) := (blk_cell BK824.out 5).trans rfl
          have hfs34 := blk_frozen BK824.out 5
          refine skip_ (w1 := ?_) (by rfl) rfl ?_ ?_
          rotate_left
          ·go_simp
           rfl
          refine hK.out _ _ ⟨gb824, m7_, (by rw [ha.out]; exact putSel_none (v := undef) rfl), (by (with_reducible repeat (first | apply Kd.R_alloc | apply Kd.R_drewN | apply Kd.R_drew)); exact Kd.R_mono (Kd.R_far (p := ⟨gb824, 5, none⟩) (Kd.R_far (p := ⟨gb824, 4, none⟩) (Kd.R_far (p := ⟨gb824, 3, none⟩) (Kd.R_far (p := ⟨gb824, 2, none⟩) (Kd.R_far (p := ⟨gb824, 1, none⟩) (Kd.R_far (p := ⟨gb824, 0, none⟩) (Kd.R_types HO_4.out BK824.out (by decide)) (fun _ hk => hk.2) (.bool t818)) (fun _ hk => hk.2) (.int .i64 t819)) (fun _ hk => hk.2) (.int .i64 t820)) (fun _ hk => hk.2) (.int .i64 t821)) (fun _ hk => hk.2) (.bool t822)) (fun _ hk => hk.2) (.bool t823)) (fun _ hk => trivial)), fun h0_ => absurd ((hon 7 (by kernel_rfl)).symm.trans h0_) (by decide), fun h0_ => absurd ((hon 7 (by kernel_rfl)).symm.trans h0_) (by decide), (by (with_reducible repeat (first | refine bN ?_ _ | refine bD ?_ | refine bA ?_ _)); refine blk_far ?_ NB809_824.out _; (with_reducible repeat (first | refine bN ?_ _ | refine bD ?_ | refine bA ?_ _)); refine blk_far ?_ NB809_824.out _; (with_reducible repeat (first | refine bN ?_ _ | refine bD ?_ | refine bA ?_ _)); refine blk_far ?_ NB809_824.out _; (with_reducible repeat (first | refine bN ?_ _ | refine bD ?_ | refine bA ?_ _)); refine blk_far ?_ NB809_824.out _; (with_reducible repeat (first | refine bN ?_ _ | refine bD ?_ | refine bA ?_ _)); refine blk_far ?_ NB809_824.out _; (with_reducible repeat (first | refine bN ?_ _ | refine bD ?_ | refine bA ?_ _)); refine blk_far ?_ NB809_824.out _; (with_reducible repeat (first | refine bN ?_ _ | refine bD ?_ | refine bA ?_ _)); exact BK809.out), (by (with_reducible repeat (first | refine bN ?_ _ | refine bD ?_ | refine bA ?_ _)); refine blk_far ?_ NB816_824.out _; (with_reducible repeat (first | refine bN ?_ _ | refine bD ?_ | refine bA ?_ _)); refine blk_far ?_ NB816_824.out _; (with_reducible repeat (first | refine bN ?_ _ | refine bD ?_ | refine bA ?_ _)); refine blk_far ?_ NB816_824.out _; (with_reducible repeat (first | refine bN ?_ _ | refine bD ?_ | refine bA ?_ _)); refine blk_far ?_ NB816_824.out _; (with_reducible repeat (first | refine bN ?_ _ | refine bD ?_ | refine bA ?_ _)); refine blk_far ?_ NB816_824.out _; (with_reducible repeat (first | refine bN ?_ _ | refine bD ?_ | refine bA ?_ _)); refine blk_far ?_ NB816_824.out _; (with_reducible repeat (first | refine bN ?_ _ | refine bD ?_ | refine bA ?_ _)); exact BK816.out), (by repeat (first | (with_reducible first | exact HB.out | apply lA | apply lN | apply lD | refine lS ?_ GE809.out | refine lS ?_ GE816.out | refine lS ?_ GE824.out) | exact HB.out)), fun _ => (by (with_reducible repeat (first | apply Kd.R_alloc | apply Kd.R_drewN | apply Kd.R_drew)); exact Kd.R_mono (Kd.R_far (p := ⟨gb824, 5, none⟩) (Kd.R_far (p := ⟨gb824, 4, none⟩) (Kd.R_far (p := ⟨gb824, 3, none⟩) (Kd.R_far (p := ⟨gb824, 2, none⟩) (Kd.R_far (p := ⟨gb824, 1, none⟩) (Kd.R_far (p := ⟨gb824, 0, none⟩) (Kd.R_mono HO_5.out (fun k_ hk => (⟨hk, hk.2⟩ : _ ∧ k_ ≠ gb824))) (fun _ hk => hk.2) (.bool t818)) (fun _ hk => hk.2) (.int .i64 t819)) (fun _ hk => hk.2) (.int .i64 t820)) (fun _ hk => hk.2) (.int .i64 t821)) (fun _ hk => hk.2) (.bool t822)) (fun _ hk => hk.2) (.bool t823)) (fun _ hk => ⟨hk.1.1, hk.1.2⟩)), fun _ => (by (with_reducible repeat (first | apply Kd.R_alloc | apply Kd.R_drewN | apply Kd.R_drew)); exact Kd.R_mono (Kd.R_far (p := ⟨gb824, 5, none⟩) (Kd.R_far (p := ⟨gb824, 4, none⟩) (Kd.R_far (p := ⟨gb824, 3, none⟩) (Kd.R_far (p := ⟨gb824, 2, none⟩) (Kd.R_far (p := ⟨gb824, 1, none⟩) (Kd.R_far (p := ⟨gb824, 0, none⟩) (Kd.R_mono HO_6.out (fun k_ hk => (⟨hk, hk.2⟩ : _ ∧ k_ ≠ gb824))) (fun _ hk => hk.2) (.bool t818)) (fun _ hk => hk.2) (.int .i64 t819)) (fun _ hk => hk.2) (.int .i64 t820)) (fun _ hk => hk.2) (.int .i64 t821)) (fun _ hk => hk.2) (.bool t822)) (fun _ hk => hk.2) (.bool t823)) (fun _ hk => ⟨hk.1.1, hk.1.2⟩)), fun _ h1_ => absurd ((up_self b 8).symm.trans h1_) (by decide), fun _ => GW824.out, fun _ => GE824.out, fun _ => NB809_824.out, fun _ => NB824_809.out, fun _ => NB816_824.out, fun _ => NB824_816.out, fun _ => (by (with_reducible repeat (first | refine bN ?_ _ | refine bD ?_ | refine bA ?_ _)); refine blk_put (cs := #[.bool t818, .int .i64 t819, .int .i64 t820, .int .i64 t821, .bool t822, .bool false]) ?_ 5 _ rfl; (with_reducible repeat (first | refine bN ?_ _ | refine bD ?_ | refine bA ?_ _)); refine blk_put (cs := #[.bool t818, .int .i64 t819, .int .i64 t820, .int .i64 t821, .bool false, .bool false]) ?_ 4 _ rfl; (with_reducible repeat (first | refine bN ?_ _ | refine bD ?_ | refine bA ?_ _)); refine blk_put (cs := #[.bool t818, .int .i64 t819, .int .i64 t820, .int .i64 0, .bool false, .bool false]) ?_ 3 _ rfl; (with_reducible repeat (first | refine bN ?_ _ | refine bD ?_ | refine bA ?_ _)); refine blk_put (cs := #[.bool t818, .int .i64 t819, .int .i64 0, .int .i64 0, .bool false, .bool false]) ?_ 2 _ rfl; (with_reducible repeat (first | refine bN ?_ _ | refine bD ?_ | refine bA ?_ _)); refine blk_put (cs := #[.bool t818, .int .i64 0, .int .i64 0, .int .i64 0, .bool false, .bool false]) ?_ 1 _ rfl; (with_reducible repeat (first | refine bN ?_ _ | refine bD ?_ | refine bA ?_ _)); refine blk_put (cs := #[.bool false, .int .i64 0, .int .i64 0, .int .i64 0, .bool false, .bool false]) ?_ 0 _ rfl; (with_reducible repeat (first | refine bN ?_ _ | refine bD ?_ | refine bA ?_ _)); exact BK824.out), Q_X7_⟩
         exact steps_nil
        rintro b a w34 hall ⟨gb824, m7_, ha, Q_HO_4, Q_HO_5, Q_HO_6, Q_BK809, Q_BK816, Q_HB, Q_HO_5_e7, Q_HO_6_e7, Q_BK824, Q_GW824, Q_GE824, Q_NB809_824, Q_NB824_809, Q_NB816_824, Q_NB824_816, Q_BK824_e8, Q_X7_⟩
        clear BK809 BK816 HB HO_4 HO_5 HO_6
        have hb0_ := hall 0 (by kernel_rfl)
        have hb1_ := hall 1 (by kernel_rfl)
        have hb4_ := hall 4 (by kernel_rfl)
        have hb5_ := hall 5 (by kernel_rfl)
        have hb6_ := hall 6 (by kernel_rfl)
        have hb7_ := hall 7 (by kernel_rfl)
        have hb8_ := hall 8 (by kernel_rfl)
        subst ha
        obtain rfl := Q_X7_ hb7_
        simp only [putSel, hb0_, hb1_, hb4_, hb5_, hb6_, hb7_, hb8_, if_true, Act.put, List.setIfInBounds_toArray, List.set_cons_zero, List.set_cons_succ]
        have HO_4 := MK Q_HO_4
        clear Q_HO_4
        clear Q_HO_5
        clear Q_HO_6
        have BK809 := MK Q_BK809
        clear Q_BK809
        have BK816 := MK Q_BK816
        clear Q_BK816
        have HB := MK Q_HB
        clear Q_HB
        have HO_5 := MK (Q_HO_5_e7 hb7_)
        clear Q_HO_5_e7
        have HO_6 := MK (Q_HO_6_e7 hb7_)
        clear Q_HO_6_e7
        clear Q_BK824
        have GW824 := MK (Q_GW824 hb7_)
        clear Q_GW824
        have GE824 := MK (Q_GE824 hb7_)
        clear Q_GE824
        have NB809_824 := MK (Q_NB809_824 hb7_)
        clear Q_NB809_824
        have NB824_809 := MK (Q_NB824_809 hb7_)
        clear Q_NB824_809
        have NB816_824 := MK (Q_NB816_824 hb7_)
        clear Q_NB816_824
        have NB824_816 := MK (Q_NB824_816 hb7_)
        clear Q_NB824_816
        have BK824 := MK (Q_BK824_e8 hb8_)
        clear Q_BK824_e8
        clear hall hb0_ hb1_ hb4_ hb5_ hb6_ hb7_ hb8_
        go_upto_region 13 with (fail)
        go_cut [64] (fun v64 wc => ∃ (kq : Nat) (x64_23 : Bool), v64 = .bool x64_23 ∧ Aside0 (laws_FnRun.j1 kq t806 t810 t813 (t810.length : Int) x32_1 x64_23 t801 t802 t803 t804 t805 t818 t819 t820 t821 t822 t823 = some r) ∧ Aside0 (kq ≤ k1) ∧ Aside0 (Kd.R k44 44 wc w.heap.size (fun _ => True) (.slice (some ad817) t806.length co10) t806) ∧ Aside0 (Kd.R k33 33 wc w.heap.size (fun k_ => some k_ ≠ ((.slice Ao15 t813.length co15) : Value).ownBlock ∧ k_ ≠ gb824) (.slice Ao14 t810.length co14) t810) ∧ Aside0 (Kd.R k33 33 wc w.heap.size (fun k_ => some k_ ≠ ((.slice Ao14 t810.length co14) : Value).ownBlock ∧ k_ ≠ gb824) (.slice Ao15 t813.length co15) t813) ∧ Aside0 (wc.heap[gb809]? = some (.cells #[.int .i64 t801, .int .i64 t802, .int .i64 t803, .int .i64 t804, .int .i64 t805] 24 (0, 0))) ∧ Aside0 (wc.heap[gb816]? = some (.cells #[.int .i64 x817000_1, .int .i64 x817001_1] 31 (0, 0))) ∧ Aside0 (wc.heap[gb824]? = some (.cells #[.bool t818, .int .i64 t819, .int .i64 t820, .int .i64 t821, .bool t822, .bool t823] 33 (0, 0))) ∧ Aside0 (Below w.heap.size w wc))
        case first =>
         have H := HC24.out
         clear HC24
         by_cases c35 : x32_1 < (t810.length : Int)
         ·rw [if_pos c35] at H
          have c35b0 : decide (x32_1 < (t810.length : Int)) = true := decide_eq_true c35
          clear c35
          (first | rw [c35b0] | (simp only [i64_w, i32_w]; rw [c35b0]) | skip)
          by_cases c36 : x32_1 < (t813.length : Int)
          ·rw [if_pos c36] at H
           have c36b0 : decide (x32_1 < (t813.length : Int)) = true := decide_eq_true c36
           clear c36
           by_cases c37 : (!(((rd_T33 t810 x32_1).f0) == ((rd_T33 t813 x32_1).f0)) || ((!(((rd_T33 t810 x32_1).f1.f0) == ((rd_T33 t813 x32_1).f1.f0)) || (!(((rd_T33 t810 x32_1).f1.f1) == ((rd_T33 t813 x32_1).f1.f1)))) || (!(((rd_T33 t810 x32_1).f2) == ((rd_T33 t813 x32_1).f2)) || (!(((rd_T33 t810 x32_1).f3) == ((rd_T33 t813 x32_1).f3)) || (!(((rd_T33 t810 x32_1).f4) == ((rd_T33 t813 x32_1).f4))))))) = true
           ·rw [if_pos c37] at H
            have c37b0 : (!(((rd_T33 t810 x32_1).f0) == ((rd_T33 t813 x32_1).f0)) || ((!(((rd_T33 t810 x32_1).f1.f0) == ((rd_T33 t813 x32_1).f1.f0)) || (!(((rd_T33 t810 x32_1).f1.f1) == ((rd_T33 t813 x32_1).f1.f1)))) || (!(((rd_T33 t810 x32_1).f2) == ((rd_T33 t813 x32_1).f2)) || (!(((rd_T33 t810 x32_1).f3) == ((rd_T33 t813 x32_1).f3)) || (!(((rd_T33 t810 x32_1).f4) == ((rd_T33 t813 x32_1).f4))))))) = true := c37
            clear c37
            have H' := MK H
            clear H
            try go_wp2
            have n0_ := MK (Kd.R_drew HO_4.out)
            have n1_ := MK (Kd.R_drew HO_5.out)
            have n2_ := MK (Kd.R_drew HO_6.out)
            have n3_ := MK (bD BK809.out)
            have n4_ := MK (bD BK816.out)
            have n5_ := MK (bD BK824.out)
            have n6_ := MK (lD HB.out)
            clear HO_4 HO_5 HO_6 BK809 BK816 BK824 HB
            have HO_4 := n0_
            have HO_5 := n1_
            have HO_6 := n2_
            have BK809 := n3_
            have BK816 := n4_
            have BK824 := n5_
            have HB := n6_
            clear n0_ n1_ n2_ n3_ n4_ n5_ n6_
            have p825 : 0 ≤ (x32_1 : Int) := of_decide_eq_true (by first | (with_reducible assumption) | assumption)
            have q825 : x32_1 < (t810.length : Int) := of_decide_eq_true (by first | (with_reducible assumption) | assumption)
            obtain ⟨ad825, e825, hx825_0, hx825_1, hx825_2, hx825_3, hx825_4, hx825_5⟩ := at_T33 (Kd.R_reads' HO_5.out).2.2 x32_1 p825 q825
            cases e825
            replace p825 := eq_true p825
            replace q825 := eq_true q825
            have p826 : 0 ≤ (x32_1 : Int) := of_decide_eq_true (by first | (with_reducible assumption) | assumption)
            have q826 : x32_1 < (t813.length : Int) := of_decide_eq_true (by first | (with_reducible assumption) | assumption)
            obtain ⟨ad826, e826, hx826_0, hx826_1, hx826_2, hx826_3, hx826_4, hx826_5⟩ := at_T33 (Kd.R_reads' HO_6.out).2.2 x32_1 p826 q826
            cases e826
            replace p826 := eq_true p826
            replace q826 := eq_true q826
            refine start_ (n := 23) (S := fun w' => w'.cell? (ad825.add ((x32_1).toNat * 6)) = some (.bool ((rd_T33 t810 x32_1).f0)) ∧ w'.cell? ⟨(ad825.add ((x32_1).toNat * 6)).block, (ad825.add ((x32_1).toNat * 6)).off + 1, none⟩ = some (.int .i64 ((rd_T33 t810 x32_1).f1.f0)) ∧ w'.cell? ⟨(ad825.add ((x32_1).toNat * 6)).block, (ad825.add ((x32_1).toNat * 6)).off + 2, none⟩ = some (.int .i64 ((rd_T33 t810 x32_1).f1.f1)) ∧ w'.cell? ⟨(ad825.add ((x32_1).toNat * 6)).block, (ad825.add ((x32_1).toNat * 6)).off + 3, none⟩ = some (.int .i64 ((rd_T33 t810 x32_1).f2)) ∧ w'.cell? ⟨(ad825.add ((x32_1).toNat * 6)).block, (ad825.add ((x32_1).toNat * 6)).off + 4, none⟩ = some (.bool ((rd_T33 t810 x32_1).f3)) ∧ w'.cell? ⟨(ad825.add ((x32_1).toNat * 6)).block, (ad825.add ((x32_1).toNat * 6)).off + 5, none⟩ = some (.bool ((rd_T33 t810 x32_1).f4)) ∧ w'.cell? (ad826.add ((x32_1).toNat * 6)) = some (.bool ((rd_T33 t813 x32_1).f0)) ∧ w'.cell? ⟨(ad826.add ((x32_1).toNat * 6)).block, (ad826.add ((x32_1).toNat * 6)).off + 1, none⟩ = some (.int .i64 ((rd_T33 t813 x32_1).f1.f0)) ∧ w'.cell? ⟨(ad826.add ((x32_1).toNat * 6)).block, (ad826.add ((x32_1).toNat * 6)).off + 2, none⟩ = some (.int .i64 ((rd_T33 t813 x32_1).f1.f1)) ∧ w'.cell? ⟨(ad826.add ((x32_1).toNat * 6)).block, (ad826.add ((x32_1).toNat * 6)).off + 3, none⟩ = some (.int .i64 ((rd_T33 t813 x32_1).f2)) ∧ w'.cell? ⟨(ad826.add ((x32_1).toNat * 6)).block, (ad826.add ((x32_1).toNat * 6)).off + 4, none⟩ = some (.bool ((rd_T33 t813 x32_1).f3)) ∧ w'.cell? ⟨(ad826.add ((x32_1).toNat * 6)).block, (ad826.add ((x32_1).toNat * 6)).off + 5, none⟩ = some (.bool ((rd_T33 t813 x32_1).f4))) (ds := []) #[false, false, false, false, false, false, false, false, false, false, false, false, false, false, false, false, false, false, false, false, false, false, false] (by kernel_rfl) rfl rfl ⟨hx825_0, hx825_1, hx825_2, hx825_3, hx825_4, hx825_5, hx826_0, hx826_1, hx826_2, hx826_3, hx826_4, hx826_5⟩ (fun hHeld => ?_); refine with_tabW laws_FnRun.tab13 laws_FnRun.bits13 (fun HT_ HW_ => ?_)
            generalize w34.drew = w38 at HO_4 HO_5 HO_6 BK809 BK816 BK824 HB hx825_0 hx825_1 hx825_2 hx825_3 hx825_4 hx825_5 hx826_0 hx826_1 hx826_2 hx826_3 hx826_4 hx826_5 hHeld ⊢
            refine pure_ (i := 0) (N := some 42) (v := ?_) (a' := ?_) #[true, false, false, false, false, false, false, false, false, false, false, false, false, false, false, false, false, false, false, false, false, false, false] rfl rfl (any_of HT_.out (by kernel_rfl)) (fun _ _ _ h => h) (Or.inl ⟨by rfl, ?_⟩) ?_ ?_
            rotate_left
            ·intro w'; go_simp; with_reducible rfl
            rotate_left
            ·simp only [Act.put, List.setIfInBounds_toArray, List.set_cons_zero, List.set_cons_succ, i64_w, i32_w]; rfl
            refine pure_ (i := 1) (N := some 43) (v := ?_) (a' := ?_) #[true, true, false, false, false, false, false, false, false, false, false, false, false, false, false, false, false, false, false, false, false, false, false] rfl rfl (any_of HT_.out (by kernel_rfl)) (fun _ _ _ h => h) (Or.inl ⟨by rfl, ?_⟩) ?_ ?_
            rotate_left
            ·intro w'; go_simp; with_reducible rfl
            rotate_left
            ·simp only [Act.put, List.setIfInBounds_toArray, List.set_cons_zero, List.set_cons_succ, i64_w, i32_w]; rfl
            refine pure_ (i := 2) (N := some 44) (v := ?_) (a' := ?_) #[true, true, true, false, false, false, false, false, false, false, false, false, false, false, false, false, false, false, false, false, false, false, false] rfl rfl (any_of HT_.out (by kernel_rfl)) (fun _ _ _ h => h) (Or.inl ⟨by rfl, ?_⟩) ?_ ?_
            rotate_left
            ·intro w'; go_simp; with_reducible rfl
            rotate_left
            ·simp only [Act.put, List.setIfInBounds_toArray, List.set_cons_zero, List.set_cons_succ, i64_w, i32_w]; rfl
            refine pure_ (i := 4) (N := some 46) (v := ?_) (a' := ?_) #[true, true, true, false, true, false, false, false, false, false, false, false, false, false, false, false, false, false, false, false, false, false, false] rfl rfl (any_of HT_.out (by kernel_rfl)) (fun _ _ _ h => h) (Or.inl ⟨by rfl, ?_⟩) ?_ ?_
            rotate_left
            ·intro w'; go_simp; with_reducible rfl
            rotate_left
            ·simp only [Act.put, List.setIfInBounds_toArray, List.set_cons_zero, List.set_cons_succ, i64_w, i32_w]; rfl
            refine pure_ (i := 5) (N := some 47) (v := ?_) (a' := ?_) #[true, true, true, false, true, true, false, false, false, false, false, false, false, false, false, false, false, false, false, false, false, false, false] rfl rfl (any_of HT_.out (by kernel_rfl)) (fun _ _ _ h => h) (Or.inl ⟨by rfl, ?_⟩) ?_ ?_
            rotate_left
            ·intro w'; go_simp; with_reducible rfl
            rotate_left
            ·simp only [Act.put, List.setIfInBounds_toArray, List.set_cons_zero, List.set_cons_succ, i64_w, i32_w]; rfl
            refine pure_ (i := 6) (N := some 48) (v := ?_) (a' := ?_) #[true, true, true, false, true, true, true, false, false, false, false, false, false, false, false, false, false, false, false, false, false, false, false] rfl rfl (any_of HT_.out (by kernel_rfl)) (fun _ _ _ h => h) (Or.inl ⟨by rfl, ?_⟩) ?_ ?_
            rotate_left
            ·intro w'; go_simp; with_reducible rfl
            rotate_left
            ·simp only [Act.put, List.setIfInBounds_toArray, List.set_cons_zero, List.set_cons_succ, i64_w, i32_w]; rfl
            refine take_ (i := 3) (N := some 45) (v := ?_) (a' := ?_) #[true, true, true, true, true, true, true, false, false, false, false, false, false, false, false, false, false, false, false, false, false, false, false] rfl rfl (take_ofW HT_.out HW_.out (by kernel_rfl)) (fun _ _ _ h => h) (Or.inl ⟨by rfl, ?_⟩) hHeld ?_ ?_
            rotate_left
            ·rintro w' ⟨s0, s1, s2, s3, s4, s5, s6, s7, s8, s9, s10, s11⟩; go_simp; with_reducible rfl
            rotate_left
            ·simp only [Act.put, List.setIfInBounds_toArray, List.set_cons_zero, List.set_cons_succ, i64_w, i32_w]; rfl
            refine take_ (i := 7) (N := some 49) (v := ?_) (a' := ?_) #[true, true, true, true, true, true, true, true, false, false, false, false, false, false, false, false, false, false, false, false, false, false, false] rfl rfl (take_ofW HT_.out HW_.out (by kernel_rfl)) (fun _ _ _ h => h) (Or.inl ⟨by rfl, ?_⟩) hHeld ?_ ?_
            rotate_left
            ·rintro w' ⟨s0, s1, s2, s3, s4, s5, s6, s7, s8, s9, s10, s11⟩; go_simp; with_reducible rfl
            rotate_left
            ·simp only [Act.put, List.setIfInBounds_toArray, List.set_cons_zero, List.set_cons_succ, i64_w, i32_w]; rfl
            refine pure_ (i := 8) (N := some 50) (v := ?_) (a' := ?_) #[true, true, true, true, true, true, true, true, true, false, false, false, false, false, false, false, false, false, false, false, false, false, false] rfl rfl (any_of HT_.out (by kernel_rfl)) (fun _ _ _ h => h) (Or.inl ⟨by rfl, ?_⟩) ?_ ?_
            rotate_left
            ·intro w'; go_simp; with_reducible rfl
            rotate_left
            ·simp only [Act.put, List.setIfInBounds_toArray, List.set_cons_zero, List.set_cons_succ, i64_w, i32_w]; rfl
            refine pure_ (i := 9) (N := some 51) (v := ?_) (a' := ?_) #[true, true, true, true, true, true, true, true, true, true, false, false, false, false, false, false, false, false, false, false, false, false, false] rfl rfl (any_of HT_.out (by kernel_rfl)) (fun _ _ _ h => h) (Or.inl ⟨by rfl, ?_⟩) ?_ ?_
            rotate_left
            ·intro w'; go_simp; with_reducible rfl
            rotate_left
            ·simp only [Act.put, List.setIfInBounds_toArray, List.set_cons_zero, List.set_cons_succ, i64_w, i32_w]; rfl
            refine pure_ (i := 10) (N := some 52) (v := undef) (a' := ?_) #[true, true, true, true, true, true, true, true, true, true, true, false, false, false, false, false, false, false, false, false, false, false, false] rfl rfl (any_of HT_.out (by kernel_rfl)) (fun _ _ _ h => h) (Or.inr ⟨by rfl, rfl⟩) ?_ ?_
            rotate_left
            ·simp only [Act.put, List.setIfInBounds_toArray, List.set_cons_zero, List.set_cons_succ, i64_w, i32_w]; rfl
            refine pure_ (i := 11) (N := some 53) (v := undef) (a' := ?_) #[true, true, true, true, true, true, true, true, true, true, true, true, false, false, false, false, false, false, false, false, false, false, false] rfl rfl (any_of HT_.out (by kernel_rfl)) (fun _ _ _ h => h) (Or.inr ⟨by rfl, rfl⟩) ?_ ?_
            rotate_left
            ·simp only [Act.put, List.setIfInBounds_toArray, List.set_cons_zero, List.set_cons_succ, i64_w, i32_w]; rfl
            refine pure_ (i := 12) (N := some 54) (v := undef) (a' := ?_) #[true, true, true, true, true, true, true, true, true, true, true, true, true, false, false, false, false, false, false, false, false, false, false] rfl rfl (any_of HT_.out (by kernel_rfl)) (fun _ _ _ h => h) (Or.inr ⟨by rfl, rfl⟩) ?_ ?_
            rotate_left
            ·simp only [Act.put, List.setIfInBounds_toArray, List.set_cons_zero, List.set_cons_succ, i64_w, i32_w]; rfl
            refine pure_ (i := 13) (N := some 55) (v := undef) (a' := ?_) #[true, true, true, true, true, true, true, true, true, true, true, true, true, true, false, false, false, false, false, false, false, false, false] rfl rfl (any_of HT_.out (by kernel_rfl)) (fun _ _ _ h => h) (Or.inr ⟨by rfl, rfl⟩) ?_ ?_
            rotate_left
            ·simp only [Act.put, List.setIfInBounds_toArray, List.set_cons_zero, List.set_cons_succ, i64_w, i32_w]; rfl
            refine pure_ (i := 14) (N := some 56) (v := undef) (a' := ?_) #[true, true, true, true, true, true, true, true, true, true, true, true, true, true, true, false, false, false, false, false, false, false, false] rfl rfl (any_of HT_.out (by kernel_rfl)) (fun _ _ _ h => h) (Or.inr ⟨by rfl, rfl⟩) ?_ ?_
            rotate_left
            ·simp only [Act.put, List.setIfInBounds_toArray, List.set_cons_zero, List.set_cons_succ, i64_w, i32_w]; rfl
            refine pure_ (i := 15) (N := some 57) (v := undef) (a' := ?_) #[true, true, true, true, true, true, true, true, true, true, true, true, true, true, true, true, false, false, false, false, false, false, false] rfl rfl (any_of HT_.out (by kernel_rfl)) (fun _ _ _ h => h) (Or.inr ⟨by rfl, rfl⟩) ?_ ?_
            rotate_left
            ·simp only [Act.put, List.setIfInBounds_toArray, List.set_cons_zero, List.set_cons_succ, i64_w, i32_w]; rfl
            refine pure_ (i := 16) (N := some 58) (v := ?_) (a' := ?_) #[true, true, true, true, true, true, true, true, true, true, true, true, true, true, true, true, true, false, false, false, false, false, false] rfl rfl (any_of HT_.out (by kernel_rfl)) (fun _ _ _ h => h) (Or.inl ⟨by rfl, ?_⟩) ?_ ?_
            rotate_left
            ·intro w'; go_simp; with_reducible rfl
            rotate_left
            ·simp only [Act.put, List.setIfInBounds_toArray, List.set_cons_zero, List.set_cons_succ, i64_w, i32_w]; rfl
            refine pure_ (i := 17) (N := some 59) (v := ?_) (a' := ?_) #[true, true, true, true, true, true, true, true, true, true, true, true, true, true, true, true, true, true, false, false, false, false, false] rfl rfl (any_of HT_.out (by kernel_rfl)) (fun _ _ _ h => h) (Or.inl ⟨by rfl, ?_⟩) ?_ ?_
            rotate_left
            ·intro w'; go_simp; with_reducible rfl
            rotate_left
            ·simp only [Act.put, List.setIfInBounds_toArray, List.set_cons_zero, List.set_cons_succ, i64_w, i32_w]; rfl
            refine pure_ (i := 18) (N := some 60) (v := undef) (a' := ?_) #[true, true, true, true, true, true, true, true, true, true, true, true, true, true, true, true, true, true, true, false, false, false, false] rfl rfl (any_of HT_.out (by kernel_rfl)) (fun _ _ _ h => h) (Or.inr ⟨by rfl, rfl⟩) ?_ ?_
            rotate_left
            ·simp only [Act.put, List.setIfInBounds_toArray, List.set_cons_zero, List.set_cons_succ, i64_w, i32_w]; rfl
            refine pure_ (i := 19) (N := some 61) (v := undef) (a' := ?_) #[true, true, true, true, true, true, true, true, true, true, true, true, true, true, true, true, true, true, true, true, false, false, false] rfl rfl (any_of HT_.out (by kernel_rfl)) (fun _ _ _ h => h) (Or.inr ⟨by rfl, rfl⟩) ?_ ?_
            rotate_left
            ·simp only [Act.put, List.setIfInBounds_toArray, List.set_cons_zero, List.set_cons_succ, i64_w, i32_w]; rfl
            refine pure_ (i := 20) (N := some 62) (v := undef) (a' := ?_) #[true, true, true, true, true, true, true, true, true, true, true, true, true, true, true, true, true, true, true, true, true, false, false] rfl rfl (any_of HT_.out (by kernel_rfl)) (fun _ _ _ h => h) (Or.inr ⟨by rfl, rfl⟩) ?_ ?_
            rotate_left
            ·simp only [Act.put, List.setIfInBounds_toArray, List.set_cons_zero, List.set_cons_succ, i64_w, i32_w]; rfl
            refine pure_ (i := 21) (N := some 63) (v := undef) (a' := ?_) #[true, true, true, true, true, true, true, true, true, true, true, true, true, true, true, true, true, true, true, true, true, true, false] rfl rfl (any_of HT_.out (by kernel_rfl)) (fun _ _ _ h => h) (Or.inr ⟨by rfl, rfl⟩) ?_ ?_
            rotate_left
            ·simp only [Act.put, List.setIfInBounds_toArray, List.set_cons_zero, List.set_cons_succ, i64_w, i32_w]; rfl
            refine pure_ (i := 22) (N := some 64) (v := ?_) (a' := ?_) #[true, true, true, true, true, true, true, true, true, true, true, true, true, true, true, true, true, true, true, true, true, true, true] rfl rfl (any_of HT_.out (by kernel_rfl)) (fun _ _ _ h => h) (Or.inl ⟨by rfl, ?_⟩) ?_ ?_
            rotate_left
            ·intro w'; go_simp; with_reducible rfl
            rotate_left
            ·simp only [Act.put, List.setIfInBounds_toArray, List.set_cons_zero, List.set_cons_succ, i64_w, i32_w]; rfl
            refine done_ (done_of HT_.out (by kernel_rfl)) ?_
            try go_wp2
            go_meet
            case rel => exact ⟨_, (true), (by first | rfl | (simp; done) | (simp [*]; done)), H', ⟨by have := HK1.out; first | omega | exact Nat.le_refl _⟩, ⟨by (with_reducible repeat (first | apply Kd.R_alloc | apply Kd.R_drewN | apply Kd.R_drew)); exact HO_4.out⟩, ⟨by (with_reducible repeat (first | apply Kd.R_alloc | apply Kd.R_drewN | apply Kd.R_drew)); exact HO_5.out⟩, ⟨by (with_reducible repeat (first | apply Kd.R_alloc | apply Kd.R_drewN | apply Kd.R_drew)); exact HO_6.out⟩, ⟨by (with_reducible repeat (first | refine bN ?_ _ | refine bD ?_ | refine bA ?_ _)); exact BK809.out⟩, ⟨by (with_reducible repeat (first | refine bN ?_ _ | refine bD ?_ | refine bA ?_ _)); exact BK816.out⟩, ⟨by (with_reducible repeat (first | refine bN ?_ _ | refine bD ?_ | refine bA ?_ _)); exact BK824.out⟩, ⟨by repeat (first | (with_reducible first | exact HB.out | apply lA | apply lN | apply lD | refine lS ?_ GE809.out | refine lS ?_ GE816.out | refine lS ?_ GE824.out) | exact HB.out)⟩⟩
           ·rw [if_neg c37] at H
            have c37b0 : (!(((rd_T33 t810 x32_1).f0) == ((rd_T33 t813 x32_1).f0)) || ((!(((rd_T33 t810 x32_1).f1.f0) == ((rd_T33 t813 x32_1).f1.f0)) || (!(((rd_T33 t810 x32_1).f1.f1) == ((rd_T33 t813 x32_1).f1.f1)))) || (!(((rd_T33 t810 x32_1).f2) == ((rd_T33 t813 x32_1).f2)) || (!(((rd_T33 t810 x32_1).f3) == ((rd_T33 t813 x32_1).f3)) || (!(((rd_T33 t810 x32_1).f4) == ((rd_T33 t813 x32_1).f4))))))) = false := by simpa using c37
            clear c37
            by_cases c39 : (!(t818 == ((rd_T33 t810 x32_1).f0)) || ((!(t819 == ((rd_T33 t810 x32_1).f1.f0)) || (!(t820 == ((rd_T33 t810 x32_1).f1.f1)))) || (!(t821 == ((rd_T33 t810 x32_1).f2)) || (!(t822 == ((rd_T33 t810 x32_1).f3)) || (!(t823 == ((rd_T33 t810 x32_1).f4))))))) = true
            ·rw [if_pos c39] at H
             have c39b0 : (!(t818 == ((rd_T33 t810 x32_1).f0)) || ((!(t819 == ((rd_T33 t810 x32_1).f1.f0)) || (!(t820 == ((rd_T33 t810 x32_1).f1.f1)))) || (!(t821 == ((rd_T33 t810 x32_1).f2)) || (!(t822 == ((rd_T33 t810 x32_1).f3)) || (!(t823 == ((rd_T33 t810 x32_1).f4))))))) = true := c39
             clear c39
             have H' := MK H
             clear H
             try go_wp2
             have n0_ := MK (Kd.R_drew HO_4.out)
             have n1_ := MK (Kd.R_drew HO_5.out)
             have n2_ := MK (Kd.R_drew HO_6.out)
             have n3_ := MK (bD BK809.out)
             have n4_ := MK (bD BK816.out)
             have n5_ := MK (bD BK824.out)
             have n6_ := MK (lD HB.out)
             clear HO_4 HO_5 HO_6 BK809 BK816 BK824 HB
             have HO_4 := n0_
             have HO_5 := n1_
             have HO_6 := n2_
             have BK809 := n3_
             have BK816 := n4_
             have BK824 := n5_
             have HB := n6_
             clear n0_ n1_ n2_ n3_ n4_ n5_ n6_
             have p825 : 0 ≤ (x32_1 : Int) := of_decide_eq_true (by first | (with_reducible assumption) | assumption)
             have q825 : x32_1 < (t810.length : Int) := of_decide_eq_true (by first | (with_reducible assumption) | assumption)
             obtain ⟨ad825, e825, hx825_0, hx825_1, hx825_2, hx825_3, hx825_4, hx825_5⟩ := at_T33 (Kd.R_reads' HO_5.out).2.2 x32_1 p825 q825
             cases e825
             replace p825 := eq_true p825
             replace q825 := eq_true q825
             have p826 : 0 ≤ (x32_1 : Int) := of_decide_eq_true (by first | (with_reducible assumption) | assumption)
             have q826 : x32_1 < (t813.length : Int) := of_decide_eq_true (by first | (with_reducible assumption) | assumption)
             obtain ⟨ad826, e826, hx826_0, hx826_1, hx826_2, hx826_3, hx826_4, hx826_5⟩ := at_T33 (Kd.R_reads' HO_6.out).2.2 x32_1 p826 q826
             cases e826
             replace p826 := eq_true p826
             replace q826 := eq_true q826
             have p827 : 0 ≤ (x32_1 : Int) := of_decide_eq_true (by first | (with_reducible assumption) | assumption)
             have q827 : x32_1 < (t810.length : Int) := of_decide_eq_true (by first | (with_reducible assumption) | assumption)
             obtain ⟨ad827, e827, hx827_0, hx827_1, hx827_2, hx827_3, hx827_4, hx827_5⟩ := at_T33 (Kd.R_reads' HO_5.out).2.2 x32_1 p827 q827
             obtain rfl : ad825 = ad827 := (by injection e827)
             replace p827 := eq_true p827
             replace q827 := eq_true q827
             refine start_ (n := 23) (S := fun w' => w'.cell? ⟨gb824, 0, none⟩ = some (.bool t818) ∧ w'.cell? ⟨gb824, 1, none⟩ = some (.int .i64 t819) ∧ w'.cell? ⟨gb824, 2, none⟩ = some (.int .i64 t820) ∧ w'.cell? ⟨gb824, 3, none⟩ = some (.int .i64 t821) ∧ w'.cell? ⟨gb824, 4, none⟩ = some (.bool t822) ∧ w'.cell? ⟨gb824, 5, none⟩ = some (.bool t823) ∧ w'.cell? (ad825.add ((x32_1).toNat * 6)) = some (.bool ((rd_T33 t810 x32_1).f0)) ∧ w'.cell? ⟨(ad825.add ((x32_1).toNat * 6)).block, (ad825.add ((x32_1).toNat * 6)).off + 1, none⟩ = some (.int .i64 ((rd_T33 t810 x32_1).f1.f0)) ∧ w'.cell? ⟨(ad825.add ((x32_1).toNat * 6)).block, (ad825.add ((x32_1).toNat * 6)).off + 2, none⟩ = some (.int .i64 ((rd_T33 t810 x32_1).f1.f1)) ∧ w'.cell? ⟨(ad825.add ((x32_1).toNat * 6)).block, (ad825.add ((x32_1).toNat * 6)).off + 3, none⟩ = some (.int .i64 ((rd_T33 t810 x32_1).f2)) ∧ w'.cell? ⟨(ad825.add ((x32_1).toNat * 6)).block, (ad825.add ((x32_1).toNat * 6)).off + 4, none⟩ = some (.bool ((rd_T33 t810 x32_1).f3)) ∧ w'.cell? ⟨(ad825.add ((x32_1).toNat * 6)).block, (ad825.add ((x32_1).toNat * 6)).off + 5, none⟩ = some (.bool ((rd_T33 t810 x32_1).f4)) ∧ w'.cell? (ad826.add ((x32_1).toNat * 6)) = some (.bool ((rd_T33 t813 x32_1).f0)) ∧ w'.cell? ⟨(ad826.add ((x32_1).toNat * 6)).block, (ad826.add ((x32_1).toNat * 6)).off + 1, none⟩ = some (.int .i64 ((rd_T33 t813 x32_1).f1.f0)) ∧ w'.cell? ⟨(ad826.add ((x32_1).toNat * 6)).block, (ad826.add ((x32_1).toNat * 6)).off + 2, none⟩ = some (.int .i64 ((rd_T33 t813 x32_1).f1.f1)) ∧ w'.cell? ⟨(ad826.add ((x32_1).toNat * 6)).block, (ad826.add ((x32_1).toNat * 6)).off + 3, none⟩ = some (.int .i64 ((rd_T33 t813 x32_1).f2)) ∧ w'.cell? ⟨(ad826.add ((x32_1).toNat * 6)).block, (ad826.add ((x32_1).toNat * 6)).off + 4, none⟩ = some (.bool ((rd_T33 t813 x32_1).f3)) ∧ w'.cell? ⟨(ad826.add ((x32_1).toNat * 6)).block, (ad826.add ((x32_1).toNat * 6)).off + 5, none⟩ = some (.bool ((rd_T33 t813 x32_1).f4)) ∧ w'.cell? (ad825.add ((x32_1).toNat * 6)) = some (.bool ((rd_T33 t810 x32_1).f0)) ∧ w'.cell? ⟨(ad825.add ((x32_1).toNat * 6)).block, (ad825.add ((x32_1).toNat * 6)).off + 1, none⟩ = some (.int .i64 ((rd_T33 t810 x32_1).f1.f0)) ∧ w'.cell? ⟨(ad825.add ((x32_1).toNat * 6)).block, (ad825.add ((x32_1).toNat * 6)).off + 2, none⟩ = some (.int .i64 ((rd_T33 t810 x32_1).f1.f1)) ∧ w'.cell? ⟨(ad825.add ((x32_1).toNat * 6)).block, (ad825.add ((x32_1).toNat * 6)).off + 3, none⟩ = some (.int .i64 ((rd_T33 t810 x32_1).f2)) ∧ w'.cell? ⟨(ad825.add ((x32_1).toNat * 6)).block, (ad825.add ((x32_1).toNat * 6)).off + 4, none⟩ = some (.bool ((rd_T33 t810 x32_1).f3)) ∧ w'.cell? ⟨(ad825.add ((x32_1).toNat * 6)).block, (ad825.add ((x32_1).toNat * 6)).off + 5, none⟩ = some (.bool ((rd_T33 t810 x32_1).f4))) (ds := []) #[false, false, false, false, false, false, false, false, false, false, false, false, false, false, false, false, false, false, false, false, false, false, false] (by kernel_rfl) rfl rfl ⟨(blk_cell BK824.out 0).trans rfl, (blk_cell BK824.out 1).trans rfl, (blk_cell BK824.out 2).trans rfl, (blk_cell BK824.out 3).trans rfl, (blk_cell BK824.out 4).trans rfl, (blk_cell BK824.out 5).trans rfl, hx825_0, hx825_1, hx825_2, hx825_3, hx825_4, hx825_5, hx826_0, hx826_1, hx826_2, hx826_3, hx826_4, hx826_5, hx827_0, hx827_1, hx827_2, hx827_3, hx827_4, hx827_5⟩ (fun hHeld => ?_); refine with_tabW laws_FnRun.tab13 laws_FnRun.bits13 (fun HT_ HW_ => ?_)
             generalize w34.drew = w40 at HO_4 HO_5 HO_6 BK809 BK816 BK824 HB hx825_0 hx825_1 hx825_2 hx825_3 hx825_4 hx825_5 hx826_0 hx826_1 hx826_2 hx826_3 hx826_4 hx826_5 hx827_0 hx827_1 hx827_2 hx827_3 hx827_4 hx827_5 hHeld ⊢
             refine pure_ (i := 0) (N := some 42) (v := ?_) (a' := ?_) #[true, false, false, false, false, false, false, false, false, false, false, false, false, false, false, false, false, false, false, false, false, false, false] rfl rfl (any_of HT_.out (by kernel_rfl)) (fun _ _ _ h => h) (Or.inl ⟨by rfl, ?_⟩) ?_ ?_
             rotate_left
             ·intro w'; go_simp; with_reducible rfl
             rotate_left
             ·simp only [Act.put, List.setIfInBounds_toArray, List.set_cons_zero, List.set_cons_succ, i64_w, i32_w]; rfl
             refine pure_ (i := 1) (N := some 43) (v := ?_) (a' := ?_) #[true, true, false, false, false, false, false, false, false, false, false, false, false, false, false, false, false, false, false, false, false, false, false] rfl rfl (any_of HT_.out (by kernel_rfl)) (fun _ _ _ h => h) (Or.inl ⟨by rfl, ?_⟩) ?_ ?_
             rotate_left
             ·intro w'; go_simp; with_reducible rfl
             rotate_left
             ·simp only [Act.put, List.setIfInBounds_toArray, List.set_cons_zero, List.set_cons_succ, i64_w, i32_w]; rfl
             refine pure_ (i := 2) (N := some 44) (v := ?_) (a' := ?_) #[true, true, true, false, false, false, false, false, false, false, false, false, false, false, false, false, false, false, false, false, false, false, false] rfl rfl (any_of HT_.out (by kernel_rfl)) (fun _ _ _ h => h) (Or.inl ⟨by rfl, ?_⟩) ?_ ?_
             rotate_left
             ·intro w'; go_simp; with_reducible rfl
             rotate_left
             ·simp only [Act.put, List.setIfInBounds_toArray, List.set_cons_zero, List.set_cons_succ, i64_w, i32_w]; rfl
             refine pure_ (i := 4) (N := some 46) (v := ?_) (a' := ?_) #[true, true, true, false, true, false, false, false, false, false, false, false, false, false, false, false, false, false, false, false, false, false, false] rfl rfl (any_of HT_.out (by kernel_rfl)) (fun _ _ _ h => h) (Or.inl ⟨by rfl, ?_⟩) ?_ ?_
             rotate_left
             ·intro w'; go_simp; with_reducible rfl
             rotate_left
             ·simp only [Act.put, List.setIfInBounds_toArray, List.set_cons_zero, List.set_cons_succ, i64_w, i32_w]; rfl
             refine pure_ (i := 5) (N := some 47) (v := ?_) (a' := ?_) #[true, true, true, false, true, true, false, false, false, false, false, false, false, false, false, false, false, false, false, false, false, false, false] rfl rfl (any_of HT_.out (by kernel_rfl)) (fun _ _ _ h => h) (Or.inl ⟨by rfl, ?_⟩) ?_ ?_
             rotate_left
             ·intro w'; go_simp; with_reducible rfl
             rotate_left
             ·simp only [Act.put, List.setIfInBounds_toArray, List.set_cons_zero, List.set_cons_succ, i64_w, i32_w]; rfl
             refine pure_ (i := 6) (N := some 48) (v := ?_) (a' := ?_) #[true, true, true, false, true, true, true, false, false, false, false, false, false, false, false, false, false, false, false, false, false, false, false] rfl rfl (any_of HT_.out (by kernel_rfl)) (fun _ _ _ h => h) (Or.inl ⟨by rfl, ?_⟩) ?_ ?_
             rotate_left
             ·intro w'; go_simp; with_reducible rfl
             rotate_left
             ·simp only [Act.put, List.setIfInBounds_toArray, List.set_cons_zero, List.set_cons_succ, i64_w, i32_w]; rfl
             refine take_ (i := 3) (N := some 45) (v := ?_) (a' := ?_) #[true, true, true, true, true, true, true, false, false, false, false, false, false, false, false, false, false, false, false, false, false, false, false] rfl rfl (take_ofW HT_.out HW_.out (by kernel_rfl)) (fun _ _ _ h => h) (Or.inl ⟨by rfl, ?_⟩) hHeld ?_ ?_
             rotate_left
             ·rintro w' ⟨s0, s1, s2, s3, s4, s5, s6, s7, s8, s9, s10, s11, s12, s13, s14, s15, s16, s17, s18, s19, s20, s21, s22, s23⟩; go_simp; with_reducible rfl
             rotate_left
             ·simp only [Act.put, List.setIfInBounds_toArray, List.set_cons_zero, List.set_cons_succ, i64_w, i32_w]; rfl
             refine take_ (i := 7) (N := some 49) (v := ?_) (a' := ?_) #[true, true, true, true, true, true, true, true, false, false, false, false, false, false, false, false, false, false, false, false, false, false, false] rfl rfl (take_ofW HT_.out HW_.out (by kernel_rfl)) (fun _ _ _ h => h) (Or.inl ⟨by rfl, ?_⟩) hHeld ?_ ?_
             rotate_left
             ·rintro w' ⟨s0, s1, s2, s3, s4, s5, s6, s7, s8, s9, s10, s11, s12, s13, s14, s15, s16, s17, s18, s19, s20, s21, s22, s23⟩; go_simp; with_reducible rfl
             rotate_left
             ·simp only [Act.put, List.setIfInBounds_toArray, List.set_cons_zero, List.set_cons_succ, i64_w, i32_w]; rfl
             refine pure_ (i := 8) (N := some 50) (v := ?_) (a' := ?_) #[true, true, true, true, true, true, true, true, true, false, false, false, false, false, false, false, false, false, false, false, false, false, false] rfl rfl (any_of HT_.out (by kernel_rfl)) (fun _ _ _ h => h) (Or.inl ⟨by rfl, ?_⟩) ?_ ?_
             rotate_left
             ·intro w'; go_simp; with_reducible rfl
             rotate_left
             ·simp only [Act.put, List.setIfInBounds_toArray, List.set_cons_zero, List.set_cons_succ, i64_w, i32_w]; rfl
             refine pure_ (i := 9) (N := some 51) (v := ?_) (a' := ?_) #[true, true, true, true, true, true, true, true, true, true, false, false, false, false, false, false, false, false, false, false, false, false, false] rfl rfl (any_of HT_.out (by kernel_rfl)) (fun _ _ _ h => h) (Or.inl ⟨by rfl, ?_⟩) ?_ ?_
             rotate_left
             ·intro w'; go_simp; with_reducible rfl
             rotate_left
             ·simp only [Act.put, List.setIfInBounds_toArray, List.set_cons_zero, List.set_cons_succ, i64_w, i32_w]; rfl
             refine pure_ (i := 11) (N := some 53) (v := ?_) (a' := ?_) #[true, true, true, true, true, true, true, true, true, true, false, true, false, false, false, false, false, false, false, false, false, false, false] rfl rfl (any_of HT_.out (by kernel_rfl)) (fun _ _ _ h => h) (Or.inl ⟨by rfl, ?_⟩) ?_ ?_
             rotate_left
             ·intro w'; go_simp; with_reducible rfl
             rotate_left
             ·simp only [Act.put, List.setIfInBounds_toArray, List.set_cons_zero, List.set_cons_succ, i64_w, i32_w]; rfl
             refine pure_ (i := 12) (N := some 54) (v := ?_) (a' := ?_) #[true, true, true, true, true, true, true, true, true, true, false, true, true, false, false, false, false, false, false, false, false, false, false] rfl rfl (any_of HT_.out (by kernel_rfl)) (fun _ _ _ h => h) (Or.inl ⟨by rfl, ?_⟩) ?_ ?_
             rotate_left
             ·intro w'; go_simp; with_reducible rfl
             rotate_left
             ·simp only [Act.put, List.setIfInBounds_toArray, List.set_cons_zero, List.set_cons_succ, i64_w, i32_w]; rfl
             refine pure_ (i := 13) (N := some 55) (v := ?_) (a' := ?_) #[true, true, true, true, true, true, true, true, true, true, false, true, true, true, false, false, false, false, false, false, false, false, false] rfl rfl (any_of HT_.out (by kernel_rfl)) (fun _ _ _ h => h) (Or.inl ⟨by rfl, ?_⟩) ?_ ?_
             rotate_left
             ·intro w'; go_simp; with_reducible rfl
             rotate_left
             ·simp only [Act.put, List.setIfInBounds_toArray, List.set_cons_zero, List.set_cons_succ, i64_w, i32_w]; rfl
             refine take_ (i := 10) (N := some 52) (v := ?_) (a' := ?_) #[true, true, true, true, true, true, true, true, true, true, true, true, true, true, false, false, false, false, false, false, false, false, false] rfl rfl (take_ofW HT_.out HW_.out (by kernel_rfl)) (fun _ _ _ h => h) (Or.inl ⟨by rfl, ?_⟩) hHeld ?_ ?_
             rotate_left
             ·rintro w' ⟨s0, s1, s2, s3, s4, s5, s6, s7, s8, s9, s10, s11, s12, s13, s14, s15, s16, s17, s18, s19, s20, s21, s22, s23⟩; go_simp; with_reducible rfl
             rotate_left
             ·simp only [Act.put, List.setIfInBounds_toArray, List.set_cons_zero, List.set_cons_succ, i64_w, i32_w]; rfl
             refine take_ (i := 14) (N := some 56) (v := ?_) (a' := ?_) #[true, true, true, true, true, true, true, true, true, true, true, true, true, true, true, false, false, false, false, false, false, false, false] rfl rfl (take_ofW HT_.out HW_.out (by kernel_rfl)) (fun _ _ _ h => h) (Or.inl ⟨by rfl, ?_⟩) hHeld ?_ ?_
             rotate_left
             ·rintro w' ⟨s0, s1, s2, s3, s4, s5, s6, s7, s8, s9, s10, s11, s12, s13, s14, s15, s16, s17, s18, s19, s20, s21, s22, s23⟩; go_simp; with_reducible rfl
             rotate_left
             ·simp only [Act.put, List.setIfInBounds_toArray, List.set_cons_zero, List.set_cons_succ, i64_w, i32_w]; rfl
             refine pure_ (i := 15) (N := some 57) (v := ?_) (a' := ?_) #[true, true, true, true, true, true, true, true, true, true, true, true, true, true, true, true, false, false, false, false, false, false, false] rfl rfl (any_of HT_.out (by kernel_rfl)) (fun _ _ _ h => h) (Or.inl ⟨by rfl, ?_⟩) ?_ ?_
             rotate_left
             ·intro w'; go_simp; with_reducible rfl
             rotate_left
             ·simp only [Act.put, List.setIfInBounds_toArray, List.set_cons_zero, List.set_cons_succ, i64_w, i32_w]; rfl
             refine pure_ (i := 16) (N := some 58) (v := ?_) (a' := ?_) #[true, true, true, true, true, true, true, true, true, true, true, true, true, true, true, true, true, false, false, false, false, false, false] rfl rfl (any_of HT_.out (by kernel_rfl)) (fun _ _ _ h => h) (Or.inl ⟨by rfl, ?_⟩) ?_ ?_
             rotate_left
             ·intro w'; go_simp; with_reducible rfl
             rotate_left
             ·simp only [Act.put, List.setIfInBounds_toArray, List.set_cons_zero, List.set_cons_succ, i64_w, i32_w]; rfl
             refine pure_ (i := 17) (N := some 59) (v := ?_) (a' := ?_) #[true, true, true, true, true, true, true, true, true, true, true, true, true, true, true, true, true, true, false, false, false, false, false] rfl rfl (any_of HT_.out (by kernel_rfl)) (fun _ _ _ h => h) (Or.inl ⟨by rfl, ?_⟩) ?_ ?_
             rotate_left
             ·intro w'; go_simp; with_reducible rfl
             rotate_left
             ·simp only [Act.put, List.setIfInBounds_toArray, List.set_cons_zero, List.set_cons_succ, i64_w, i32_w]; rfl
             refine pure_ (i := 18) (N := some 60) (v := undef) (a' := ?_) #[true, true, true, true, true, true, true, true, true, true, true, true, true, true, true, true, true, true, true, false, false, false, false] rfl rfl (any_of HT_.out (by kernel_rfl)) (fun _ _ _ h => h) (Or.inr ⟨by rfl, rfl⟩) ?_ ?_
             rotate_left
             ·simp only [Act.put, List.setIfInBounds_toArray, List.set_cons_zero, List.set_cons_succ, i64_w, i32_w]; rfl
             refine pure_ (i := 19) (N := some 61) (v := undef) (a' := ?_) #[true, true, true, true, true, true, true, true, true, true, true, true, true, true, true, true, true, true, true, true, false, false, false] rfl rfl (any_of HT_.out (by kernel_rfl)) (fun _ _ _ h => h) (Or.inr ⟨by rfl, rfl⟩) ?_ ?_
             rotate_left
             ·simp only [Act.put, List.setIfInBounds_toArray, List.set_cons_zero, List.set_cons_succ, i64_w, i32_w]; rfl
             refine pure_ (i := 20) (N := some 62) (v := undef) (a' := ?_) #[true, true, true, true, true, true, true, true, true, true, true, true, true, true, true, true, true, true, true, true, true, false, false] rfl rfl (any_of HT_.out (by kernel_rfl)) (fun _ _ _ h => h) (Or.inr ⟨by rfl, rfl⟩) ?_ ?_
             rotate_left
             ·simp only [Act.put, List.setIfInBounds_toArray, List.set_cons_zero, List.set_cons_succ, i64_w, i32_w]; rfl
             refine pure_ (i := 21) (N := some 63) (v := undef) (a' := ?_) #[true, true, true, true, true, true, true, true, true, true, true, true, true, true, true, true, true, true, true, true, true, true, false] rfl rfl (any_of HT_.out (by kernel_rfl)) (fun _ _ _ h => h) (Or.inr ⟨by rfl, rfl⟩) ?_ ?_
             rotate_left
             ·simp only [Act.put, List.setIfInBounds_toArray, List.set_cons_zero, List.set_cons_succ, i64_w, i32_w]; rfl
             refine pure_ (i := 22) (N := some 64) (v := ?_) (a' := ?_) #[true, true, true, true, true, true, true, true, true, true, true, true, true, true, true, true, true, true, true, true, true, true, true] rfl rfl (any_of HT_.out (by kernel_rfl)) (fun _ _ _ h => h) (Or.inl ⟨by rfl, ?_⟩) ?_ ?_
             rotate_left
             ·intro w'; go_simp; with_reducible rfl
             rotate_left
             ·simp only [Act.put, List.setIfInBounds_toArray, List.set_cons_zero, List.set_cons_succ, i64_w, i32_w]; rfl
             refine done_ (done_of HT_.out (by kernel_rfl)) ?_
             try go_wp2
             go_meet
             case rel => exact ⟨_, (true), (by first | rfl | (simp; done) | (simp [*]; done)), H', ⟨by have := HK1.out; first | omega | exact Nat.le_refl _⟩, ⟨by (with_reducible repeat (first | apply Kd.R_alloc | apply Kd.R_drewN | apply Kd.R_drew)); exact HO_4.out⟩, ⟨by (with_reducible repeat (first | apply Kd.R_alloc | apply Kd.R_drewN | apply Kd.R_drew)); exact HO_5.out⟩, ⟨by (with_reducible repeat (first | apply Kd.R_alloc | apply Kd.R_drewN | apply Kd.R_drew)); exact HO_6.out⟩, ⟨by (with_reducible repeat (first | refine bN ?_ _ | refine bD ?_ | refine bA ?_ _)); exact BK809.out⟩, ⟨by (with_reducible repeat (first | refine bN ?_ _ | refine bD ?_ | refine bA ?_ _)); exact BK816.out⟩, ⟨by (with_reducible repeat (first | refine bN ?_ _ | refine bD ?_ | refine bA ?_ _)); exact BK824.out⟩, ⟨by repeat (first | (with_reducible first | exact HB.out | apply lA | apply lN | apply lD | refine lS ?_ GE809.out | refine lS ?_ GE816.out | refine lS ?_ GE824.out) | exact HB.out)⟩⟩
            ·rw [if_neg c39] at H
             have c39b0 : (!(t818 == ((rd_T33 t810 x32_1).f0)) || ((!(t819 == ((rd_T33 t810 x32_1).f1.f0)) || (!(t820 == ((rd_T33 t810 x32_1).f1.f1)))) || (!(t821 == ((rd_T33 t810 x32_1).f2)) || (!(t822 == ((rd_T33 t810 x32_1).f3)) || (!(t823 == ((rd_T33 t810 x32_1).f4))))))) = false := by simpa using c39
             clear c39
             replace H := Option.bind_eq_some_iff.mp H
             obtain ⟨t828, A410, H⟩ := H
             replace H : (laws_FnRun.j1 k1 t806 t810 t813 (t810.length : Int) x32_1 (!t828) t801 t802 t803 t804 t805 t818 t819 t820 t821 t822 t823) = some r := H
             have A41 := MK A410
             clear A410
             have H' := MK H
             clear H
             try go_wp2
             have n0_ := MK (Kd.R_drew HO_4.out)
             have n1_ := MK (Kd.R_drew HO_5.out)
             have n2_ := MK (Kd.R_drew HO_6.out)
             have n3_ := MK (bD BK809.out)
             have n4_ := MK (bD BK816.out)
             have n5_ := MK (bD BK824.out)
             have n6_ := MK (lD HB.out)
             clear HO_4 HO_5 HO_6 BK809 BK816 BK824 HB
             have HO_4 := n0_
             have HO_5 := n1_
             have HO_6 := n2_
             have BK809 := n3_
             have BK816 := n4_
             have BK824 := n5_
             have HB := n6_
             clear n0_ n1_ n2_ n3_ n4_ n5_ n6_
             have p825 : 0 ≤ (x32_1 : Int) := of_decide_eq_true (by first | (with_reducible assumption) | assumption)
             have q825 : x32_1 < (t810.length : Int) := of_decide_eq_true (by first | (with_reducible assumption) | assumption)
             obtain ⟨ad825, e825, hx825_0, hx825_1, hx825_2, hx825_3, hx825_4, hx825_5⟩ := at_T33 (Kd.R_reads' HO_5.out).2.2 x32_1 p825 q825
             cases e825
             replace p825 := eq_true p825
             replace q825 := eq_true q825
             have p826 : 0 ≤ (x32_1 : Int) := of_decide_eq_true (by first | (with_reducible assumption) | assumption)
             have q826 : x32_1 < (t813.length : Int) := of_decide_eq_true (by first | (with_reducible assumption) | assumption)
             obtain ⟨ad826, e826, hx826_0, hx826_1, hx826_2, hx826_3, hx826_4, hx826_5⟩ := at_T33 (Kd.R_reads' HO_6.out).2.2 x32_1 p826 q826
             cases e826
             replace p826 := eq_true p826
             replace q826 := eq_true q826
             have p827 : 0 ≤ (x32_1 : Int) := of_decide_eq_true (by first | (with_reducible assumption) | assumption)
             have q827 : x32_1 < (t810.length : Int) := of_decide_eq_true (by first | (with_reducible assumption) | assumption)
             obtain ⟨ad827, e827, hx827_0, hx827_1, hx827_2, hx827_3, hx827_4, hx827_5⟩ := at_T33 (Kd.R_reads' HO_5.out).2.2 x32_1 p827 q827
             obtain rfl : ad825 = ad827 := (by injection e827)
             replace p827 := eq_true p827
             replace q827 := eq_true q827
             refine start_ (n := 23) (S := fun w' => w'.cell? ⟨gb824, 0, none⟩ = some (.bool t818) ∧ w'.cell? ⟨gb824, 1, none⟩ = some (.int .i64 t819) ∧ w'.cell? ⟨gb824, 2, none⟩ = some (.int .i64 t820) ∧ w'.cell? ⟨gb824, 3, none⟩ = some (.int .i64 t821) ∧ w'.cell? ⟨gb824, 4, none⟩ = some (.bool t822) ∧ w'.cell? ⟨gb824, 5, none⟩ = some (.bool t823) ∧ w'.cell? (ad825.add ((x32_1).toNat * 6)) = some (.bool ((rd_T33 t810 x32_1).f0)) ∧ w'.cell? ⟨(ad825.add ((x32_1).toNat * 6)).block, (ad825.add ((x32_1).toNat * 6)).off + 1, none⟩ = some (.int .i64 ((rd_T33 t810 x32_1).f1.f0)) ∧ w'.cell? ⟨(ad825.add ((x32_1).toNat * 6)).block, (ad825.add ((x32_1).toNat * 6)).off + 2, none⟩ = some (.int .i64 ((rd_T33 t810 x32_1).f1.f1)) ∧ w'.cell? ⟨(ad825.add ((x32_1).toNat * 6)).block, (ad825.add ((x32_1).toNat * 6)).off + 3, none⟩ = some (.int .i64 ((rd_T33 t810 x32_1).f2)) ∧ w'.cell? ⟨(ad825.add ((x32_1).toNat * 6)).block, (ad825.add ((x32_1).toNat * 6)).off + 4, none⟩ = some (.bool ((rd_T33 t810 x32_1).f3)) ∧ w'.cell? ⟨(ad825.add ((x32_1).toNat * 6)).block, (ad825.add ((x32_1).toNat * 6)).off + 5, none⟩ = some (.bool ((rd_T33 t810 x32_1).f4)) ∧ w'.cell? (ad826.add ((x32_1).toNat * 6)) = some (.bool ((rd_T33 t813 x32_1).f0)) ∧ w'.cell? ⟨(ad826.add ((x32_1).toNat * 6)).block, (ad826.add ((x32_1).toNat * 6)).off + 1, none⟩ = some (.int .i64 ((rd_T33 t813 x32_1).f1.f0)) ∧ w'.cell? ⟨(ad826.add ((x32_1).toNat * 6)).block, (ad826.add ((x32_1).toNat * 6)).off + 2, none⟩ = some (.int .i64 ((rd_T33 t813 x32_1).f1.f1)) ∧ w'.cell? ⟨(ad826.add ((x32_1).toNat * 6)).block, (ad826.add ((x32_1).toNat * 6)).off + 3, none⟩ = some (.int .i64 ((rd_T33 t813 x32_1).f2)) ∧ w'.cell? ⟨(ad826.add ((x32_1).toNat * 6)).block, (ad826.add ((x32_1).toNat * 6)).off + 4, none⟩ = some (.bool ((rd_T33 t813 x32_1).f3)) ∧ w'.cell? ⟨(ad826.add ((x32_1).toNat * 6)).block, (ad826.add ((x32_1).toNat * 6)).off + 5, none⟩ = some (.bool ((rd_T33 t813 x32_1).f4)) ∧ w'.cell? (ad825.add ((x32_1).toNat * 6)) = some (.bool ((rd_T33 t810 x32_1).f0)) ∧ w'.cell? ⟨(ad825.add ((x32_1).toNat * 6)).block, (ad825.add ((x32_1).toNat * 6)).off + 1, none⟩ = some (.int .i64 ((rd_T33 t810 x32_1).f1.f0)) ∧ w'.cell? ⟨(ad825.add ((x32_1).toNat * 6)).block, (ad825.add ((x32_1).toNat * 6)).off + 2, none⟩ = some (.int .i64 ((rd_T33 t810 x32_1).f1.f1)) ∧ w'.cell? ⟨(ad825.add ((x32_1).toNat * 6)).block, (ad825.add ((x32_1).toNat * 6)).off + 3, none⟩ = some (.int .i64 ((rd_T33 t810 x32_1).f2)) ∧ w'.cell? ⟨(ad825.add ((x32_1).toNat * 6)).block, (ad825.add ((x32_1).toNat * 6)).off + 4, none⟩ = some (.bool ((rd_T33 t810 x32_1).f3)) ∧ w'.cell? ⟨(ad825.add ((x32_1).toNat * 6)).block, (ad825.add ((x32_1).toNat * 6)).off + 5, none⟩ = some (.bool ((rd_T33 t810 x32_1).f4))) (ds := []) #[false, false, false, false, false, false, false, false, false, false, false, false, false, false, false, false, false, false, false, false, false, false, false] (by kernel_rfl) rfl rfl ⟨(blk_cell BK824.out 0).trans rfl, (blk_cell BK824.out 1).trans rfl, (blk_cell BK824.out 2).trans rfl, (blk_cell BK824.out 3).trans rfl, (blk_cell BK824.out 4).trans rfl, (blk_cell BK824.out 5).trans rfl, hx825_0, hx825_1, hx825_2, hx825_3, hx825_4, hx825_5, hx826_0, hx826_1, hx826_2, hx826_3, hx826_4, hx826_5, hx827_0, hx827_1, hx827_2, hx827_3, hx827_4, hx827_5⟩ (fun hHeld => ?_); refine with_tabW laws_FnRun.tab13 laws_FnRun.bits13 (fun HT_ HW_ => ?_)
             generalize w34.drew = w42 at HO_4 HO_5 HO_6 BK809 BK816 BK824 HB hx825_0 hx825_1 hx825_2 hx825_3 hx825_4 hx825_5 hx826_0 hx826_1 hx826_2 hx826_3 hx826_4 hx826_5 hx827_0 hx827_1 hx827_2 hx827_3 hx827_4 hx827_5 hHeld ⊢
             refine pure_ (i := 0) (N := some 42) (v := ?_) (a' := ?_) #[true, false, false, false, false, false, false, false, false, false, false, false, false, false, false, false, false, false, false, false, false, false, false] rfl rfl (any_of HT_.out (by kernel_rfl)) (fun _ _ _ h => h) (Or.inl ⟨by rfl, ?_⟩) ?_ ?_
             rotate_left
             ·intro w'; go_simp; with_reducible rfl
             rotate_left
             ·simp only [Act.put, List.setIfInBounds_toArray, List.set_cons_zero, List.set_cons_succ, i64_w, i32_w]; rfl
             refine pure_ (i := 1) (N := some 43) (v := ?_) (a' := ?_) #[true, true, false, false, false, false, false, false, false, false, false, false, false, false, false, false, false, false, false, false, false, false, false] rfl rfl (any_of HT_.out (by kernel_rfl)) (fun _ _ _ h => h) (Or.inl ⟨by rfl, ?_⟩) ?_ ?_
             rotate_left
             ·intro w'; go_simp; with_reducible rfl
             rotate_left
             ·simp only [Act.put, List.setIfInBounds_toArray, List.set_cons_zero, List.set_cons_succ, i64_w, i32_w]; rfl
             refine pure_ (i := 2) (N := some 44) (v := ?_) (a' := ?_) #[true, true, true, false, false, false, false, false, false, false, false, false, false, false, false, false, false, false, false, false, false, false, false] rfl rfl (any_of HT_.out (by kernel_rfl)) (fun _ _ _ h => h) (Or.inl ⟨by rfl, ?_⟩) ?_ ?_
             rotate_left
             ·intro w'; go_simp; with_reducible rfl
             rotate_left
             ·simp only [Act.put, List.setIfInBounds_toArray, List.set_cons_zero, List.set_cons_succ, i64_w, i32_w]; rfl
             refine pure_ (i := 4) (N := some 46) (v := ?_) (a' := ?_) #[true, true, true, false, true, false, false, false, false, false, false, false, false, false, false, false, false, false, false, false, false, false, false] rfl rfl (any_of HT_.out (by kernel_rfl)) (fun _ _ _ h => h) (Or.inl ⟨by rfl, ?_⟩) ?_ ?_
             rotate_left
             ·intro w'; go_simp; with_reducible rfl
             rotate_left
             ·simp only [Act.put, List.setIfInBounds_toArray, List.set_cons_zero, List.set_cons_succ, i64_w, i32_w]; rfl
             refine pure_ (i := 5) (N := some 47) (v := ?_) (a' := ?_) #[true, true, true, false, true, true, false, false, false, false, false, false, false, false, false, false, false, false, false, false, false, false, false] rfl rfl (any_of HT_.out (by kernel_rfl)) (fun _ _ _ h => h) (Or.inl ⟨by rfl, ?_⟩) ?_ ?_
             rotate_left
             ·intro w'; go_simp; with_reducible rfl
             rotate_left
             ·simp only [Act.put, List.setIfInBounds_toArray, List.set_cons_zero, List.set_cons_succ, i64_w, i32_w]; rfl
             refine pure_ (i := 6) (N := some 48) (v := ?_) (a' := ?_) #[true, true, true, false, true, true, true, false, false, false, false, false, false, false, false, false, false, false, false, false, false, false, false] rfl rfl (any_of HT_.out (by kernel_rfl)) (fun _ _ _ h => h) (Or.inl ⟨by rfl, ?_⟩) ?_ ?_
             rotate_left
             ·intro w'; go_simp; with_reducible rfl
             rotate_left
             ·simp only [Act.put, List.setIfInBounds_toArray, List.set_cons_zero, List.set_cons_succ, i64_w, i32_w]; rfl
             refine take_ (i := 3) (N := some 45) (v := ?_) (a' := ?_) #[true, true, true, true, true, true, true, false, false, false, false, false, false, false, false, false, false, false, false, false, false, false, false] rfl rfl (take_ofW HT_.out HW_.out (by kernel_rfl)) (fun _ _ _ h => h) (Or.inl ⟨by rfl, ?_⟩) hHeld ?_ ?_
             rotate_left
             ·rintro w' ⟨s0, s1, s2, s3, s4, s5, s6, s7, s8, s9, s10, s11, s12, s13, s14, s15, s16, s17, s18, s19, s20, s21, s22, s23⟩; go_simp; with_reducible rfl
             rotate_left
             ·simp only [Act.put, List.setIfInBounds_toArray, List.set_cons_zero, List.set_cons_succ, i64_w, i32_w]; rfl
             refine take_ (i := 7) (N := some 49) (v := ?_) (a' := ?_) #[true, true, true, true, true, true, true, true, false, false, false, false, false, false, false, false, false, false, false, false, false, false, false] rfl rfl (take_ofW HT_.out HW_.out (by kernel_rfl)) (fun _ _ _ h => h) (Or.inl ⟨by rfl, ?_⟩) hHeld ?_ ?_
             rotate_left
             ·rintro w' ⟨s0, s1, s2, s3, s4, s5, s6, s7, s8, s9, s10, s11, s12, s13, s14, s15, s16, s17, s18, s19, s20, s21, s22, s23⟩; go_simp; with_reducible rfl
             rotate_left
             ·simp only [Act.put, List.setIfInBounds_toArray, List.set_cons_zero, List.set_cons_succ, i64_w, i32_w]; rfl
             refine pure_ (i := 8) (N := some 50) (v := ?_) (a' := ?_) #[true, true, true, true, true, true, true, true, true, false, false, false, false, false, false, false, false, false, false, false, false, false, false] rfl rfl (any_of HT_.out (by kernel_rfl)) (fun _ _ _ h => h) (Or.inl ⟨by rfl, ?_⟩) ?_ ?_
             rotate_left
             ·intro w'; go_simp; with_reducible rfl
             rotate_left
             ·simp only [Act.put, List.setIfInBounds_toArray, List.set_cons_zero, List.set_cons_succ, i64_w, i32_w]; rfl
             refine pure_ (i := 9) (N := some 51) (v := ?_) (a' := ?_) #[true, true, true, true, true, true, true, true, true, true, false, false, false, false, false, false, false, false, false, false, false, false, false] rfl rfl (any_of HT_.out (by kernel_rfl)) (fun _ _ _ h => h) (Or.inl ⟨by rfl, ?_⟩) ?_ ?_
             rotate_left
             ·intro w'; go_simp; with_reducible rfl
             rotate_left
             ·simp only [Act.put, List.setIfInBounds_toArray, List.set_cons_zero, List.set_cons_succ, i64_w, i32_w]; rfl
             refine pure_ (i := 11) (N := some 53) (v := ?_) (a' := ?_) #[true, true, true, true, true, true, true, true, true, true, false, true, false, false, false, false, false, false, false, false, false, false, false] rfl rfl (any_of HT_.out (by kernel_rfl)) (fun _ _ _ h => h) (Or.inl ⟨by rfl, ?_⟩) ?_ ?_
             rotate_left
             ·intro w'; go_simp; with_reducible rfl
             rotate_left
             ·simp only [Act.put, List.setIfInBounds_toArray, List.set_cons_zero, List.set_cons_succ, i64_w, i32_w]; rfl
             refine pure_ (i := 12) (N := some 54) (v := ?_) (a' := ?_) #[true, true, true, true, true, true, true, true, true, true, false, true, true, false, false, false, false, false, false, false, false, false, false] rfl rfl (any_of HT_.out (by kernel_rfl)) (fun _ _ _ h => h) (Or.inl ⟨by rfl, ?_⟩) ?_ ?_
             rotate_left
             ·intro w'; go_simp; with_reducible rfl
             rotate_left
             ·simp only [Act.put, List.setIfInBounds_toArray, List.set_cons_zero, List.set_cons_succ, i64_w, i32_w]; rfl
             refine pure_ (i := 13) (N := some 55) (v := ?_) (a' := ?_) #[true, true, true, true, true, true, true, true, true, true, false, true, true, true, false, false, false, false, false, false, false, false, false] rfl rfl (any_of HT_.out (by kernel_rfl)) (fun _ _ _ h => h) (Or.inl ⟨by rfl, ?_⟩) ?_ ?_
             rotate_left
             ·intro w'; go_simp; with_reducible rfl
             rotate_left
             ·simp only [Act.put, List.setIfInBounds_toArray, List.set_cons_zero, List.set_cons_succ, i64_w, i32_w]; rfl
             refine take_ (i := 10) (N := some 52) (v := ?_) (a' := ?_) #[true, true, true, true, true, true, true, true, true, true, true, true, true, true, false, false, false, false, false, false, false, false, false] rfl rfl (take_ofW HT_.out HW_.out (by kernel_rfl)) (fun _ _ _ h => h) (Or.inl ⟨by rfl, ?_⟩) hHeld ?_ ?_
             rotate_left
             ·rintro w' ⟨s0, s1, s2, s3, s4, s5, s6, s7, s8, s9, s10, s11, s12, s13, s14, s15, s16, s17, s18, s19, s20, s21, s22, s23⟩; go_simp; with_reducible rfl
             rotate_left
             ·simp only [Act.put, List.setIfInBounds_toArray, List.set_cons_zero, List.set_cons_succ, i64_w, i32_w]; rfl
             refine take_ (i := 14) (N := some 56) (v := ?_) (a' := ?_) #[true, true, true, true, true, true, true, true, true, true, true, true, true, true, true, false, false, false, false, false, false, false, false] rfl rfl (take_ofW HT_.out HW_.out (by kernel_rfl)) (fun _ _ _ h => h) (Or.inl ⟨by rfl, ?_⟩) hHeld ?_ ?_
             rotate_left
             ·rintro w' ⟨s0, s1, s2, s3, s4, s5, s6, s7, s8, s9, s10, s11, s12, s13, s14, s15, s16, s17, s18, s19, s20, s21, s22, s23⟩; go_simp; with_reducible rfl
             rotate_left
             ·simp only [Act.put, List.setIfInBounds_toArray, List.set_cons_zero, List.set_cons_succ, i64_w, i32_w]; rfl
             refine pure_ (i := 15) (N := some 57) (v := ?_) (a' := ?_) #[true, true, true, true, true, true, true, true, true, true, true, true, true, true, true, true, false, false, false, false, false, false, false] rfl rfl (any_of HT_.out (by kernel_rfl)) (fun _ _ _ h => h) (Or.inl ⟨by rfl, ?_⟩) ?_ ?_
             rotate_left
             ·intro w'; go_simp; with_reducible rfl
             rotate_left
             ·simp only [Act.put, List.setIfInBounds_toArray, List.set_cons_zero, List.set_cons_succ, i64_w, i32_w]; rfl
             refine pure_ (i := 16) (N := some 58) (v := ?_) (a' := ?_) #[true, true, true, true, true, true, true, true, true, true, true, true, true, true, true, true, true, false, false, false, false, false, false] rfl rfl (any_of HT_.out (by kernel_rfl)) (fun _ _ _ h => h) (Or.inl ⟨by rfl, ?_⟩) ?_ ?_
             rotate_left
             ·intro w'; go_simp; with_reducible rfl
             rotate_left
             ·simp only [Act.put, List.setIfInBounds_toArray, List.set_cons_zero, List.set_cons_succ, i64_w, i32_w]; rfl
             refine pure_ (i := 17) (N := some 59) (v := ?_) (a' := ?_) #[true, true, true, true, true, true, true, true, true, true, true, true, true, true, true, true, true, true, false, false, false, false, false] rfl rfl (any_of HT_.out (by kernel_rfl)) (fun _ _ _ h => h) (Or.inl ⟨by rfl, ?_⟩) ?_ ?_
             rotate_left
             ·intro w'; go_simp; with_reducible rfl
             rotate_left
             ·simp only [Act.put, List.setIfInBounds_toArray, List.set_cons_zero, List.set_cons_succ, i64_w, i32_w]; rfl
             refine pure_ (i := 18) (N := some 60) (v := ?_) (a' := ?_) #[true, true, true, true, true, true, true, true, true, true, true, true, true, true, true, true, true, true, true, false, false, false, false] rfl rfl (any_of HT_.out (by kernel_rfl)) (fun _ _ _ h => h) (Or.inl ⟨by rfl, ?_⟩) ?_ ?_
             rotate_left
             ·intro w'; go_simp; with_reducible rfl
             rotate_left
             ·simp only [Act.put, List.setIfInBounds_toArray, List.set_cons_zero, List.set_cons_succ, i64_w, i32_w]; rfl
             refine take_ (i := 19) (N := some 61) (v := ?_) (a' := ?_) #[true, true, true, true, true, true, true, true, true, true, true, true, true, true, true, true, true, true, true, true, false, false, false] rfl rfl (take_ofW HT_.out HW_.out (by kernel_rfl)) (fun _ _ _ h => h) (Or.inl ⟨by rfl, ?_⟩) hHeld ?_ ?_
             rotate_left
             ·rintro w' ⟨s0, s1, s2, s3, s4, s5, s6, s7, s8, s9, s10, s11, s12, s13, s14, s15, s16, s17, s18, s19, s20, s21, s22, s23⟩; go_simp; with_reducible rfl
             rotate_left
             ·simp only [Act.put, List.setIfInBounds_toArray, List.set_cons_zero, List.set_cons_succ, i64_w, i32_w]; rfl
             refine one_ (i := 20) (N := some 62) #[true, true, true, true, true, true, true, true, true, true, true, true, true, true, true, true, true, true, true, true, true, false, false] rfl rfl (one_of HT_.out (by kernel_rfl)) (by decide) (fun K hK => ?_)
             refine goes_ Try.func26 (by kernel_rfl) rfl #[.agg #[.int .i64 t819, .int .i64 t820]] (by rfl) rfl rfl (by (try simp only [List.map_toArray, List.map_cons, List.map_nil]); first | done | rfl | (simp only [List.length_drop, List.length_take]; rfl)) ?_
             with_reducible refine (impl_GuardOk.calls t819 t820 t828 _ A41.out).mono ?_
             rintro e w43 ⟨rfl, hb⟩
             have HS6_ := (hb.cell (World.block_lt_of_cell? _ _ (hHeld.2.2.2.2.2.2.1))).trans (hHeld.2.2.2.2.2.2.1)
             have HS7_ := (hb.cell (World.block_lt_of_cell? _ _ (hHeld.2.2.2.2.2.2.2.1))).trans (hHeld.2.2.2.2.2.2.2.1)
             have HS8_ := (hb.cell (World.block_lt_of_cell? _ _ (hHeld.2.2.2.2.2.2.2.2.1))).trans (hHeld.2.2.2.2.2.2.2.2.1)
             have HS9_ := (hb.cell (World.block_lt_of_cell? _ _ (hHeld.2.2.2.2.2.2.2.2.2.1))).trans (hHeld.2.2.2.2.2.2.2.2.2.1)
             have HS10_ := (hb.cell (World.block_lt_of_cell? _ _ (hHeld.2.2.2.2.2.2.2.2.2.2.1))).trans (hHeld.2.2.2.2.2.2.2.2.2.2.1)
             have HS11_ := (hb.cell (World.block_lt_of_cell? _ _ (hHeld.2.2.2.2.2.2.2.2.2.2.2.1))).trans (hHeld.2.2.2.2.2.2.2.2.2.2.2.1)
             have HS12_ := (hb.cell (World.block_lt_of_cell? _ _ (hHeld.2.2.2.2.2.2.2.2.2.2.2.2.1))).trans (hHeld.2.2.2.2.2.2.2.2.2.2.2.2.1)
             have HS13_ := (hb.cell (World.block_lt_of_cell? _ _ (hHeld.2.2.2.2.2.2.2.2.2.2.2.2.2.1))).trans (hHeld.2.2.2.2.2.2.2.2.2.2.2.2.2.1)
             have HS14_ := (hb.cell (World.block_lt_of_cell? _ _ (hHeld.2.2.2.2.2.2.2.2.2.2.2.2.2.2.1))).trans (hHeld.2.2.2.2.2.2.2.2.2.2.2.2.2.2.1)
             have HS15_ := (hb.cell (World.block_lt_of_cell? _ _ (hHeld.2.2.2.2.2.2.2.2.2.2.2.2.2.2.2.1))).trans (hHeld.2.2.2.2.2.2.2.2.2.2.2.2.2.2.2.1)
             have HS16_ := (hb.cell (World.block_lt_of_cell? _ _ (hHeld.2.2.2.2.2.2.2.2.2.2.2.2.2.2.2.2.1))).trans (hHeld.2.2.2.2.2.2.2.2.2.2.2.2.2.2.2.2.1)
             have HS17_ := (hb.cell (World.block_lt_of_cell? _ _ (hHeld.2.2.2.2.2.2.2.2.2.2.2.2.2.2.2.2.2.1))).trans (hHeld.2.2.2.2.2.2.2.2.2.2.2.2.2.2.2.2.2.1)
             have HS18_ := (hb.cell (World.block_lt_of_cell? _ _ (hHeld.2.2.2.2.2.2.2.2.2.2.2.2.2.2.2.2.2.2.1))).trans (hHeld.2.2.2.2.2.2.2.2.2.2.2.2.2.2.2.2.2.2.1)
             have HS19_ := (hb.cell (World.block_lt_of_cell? _ _ (hHeld.2.2.2.2.2.2.2.2.2.2.2.2.2.2.2.2.2.2.2.1))).trans (hHeld.2.2.2.2.2.2.2.2.2.2.2.2.2.2.2.2.2.2.2.1)
             have HS20_ := (hb.cell (World.block_lt_of_cell? _ _ (hHeld.2.2.2.2.2.2.2.2.2.2.2.2.2.2.2.2.2.2.2.2.1))).trans (hHeld.2.2.2.2.2.2.2.2.2.2.2.2.2.2.2.2.2.2.2.2.1)
             have HS21_ := (hb.cell (World.block_lt_of_cell? _ _ (hHeld.2.2.2.2.2.2.2.2.2.2.2.2.2.2.2.2.2.2.2.2.2.1))).trans (hHeld.2.2.2.2.2.2.2.2.2.2.2.2.2.2.2.2.2.2.2.2.2.1)
             have HS22_ := (hb.cell (World.block_lt_of_cell? _ _ (hHeld.2.2.2.2.2.2.2.2.2.2.2.2.2.2.2.2.2.2.2.2.2.2.1))).trans (hHeld.2.2.2.2.2.2.2.2.2.2.2.2.2.2.2.2.2.2.2.2.2.2.1)
             have HS23_ := (hb.cell (World.block_lt_of_cell? _ _ (hHeld.2.2.2.2.2.2.2.2.2.2.2.2.2.2.2.2.2.2.2.2.2.2.2))).trans (hHeld.2.2.2.2.2.2.2.2.2.2.2.2.2.2.2.2.2.2.2.2.2.2.2)
             refine ⟨_, rfl, ?_⟩
             have n0_ := MK (Kd.R_below (by (with_reducible repeat (first | apply Kd.R_alloc | apply Kd.R_drewN | apply Kd.R_drew)); exact HO_4.out) hb)
             have n1_ := MK (Kd.R_below (by (with_reducible repeat (first | apply Kd.R_alloc | apply Kd.R_drewN | apply Kd.R_drew)); exact HO_5.out) hb)
             have n2_ := MK (Kd.R_below (by (with_reducible repeat (first | apply Kd.R_alloc | apply Kd.R_drewN | apply Kd.R_drew)); exact HO_6.out) hb)
             have n3_ := MK (blk_below (by (with_reducible repeat (first | refine bN ?_ _ | refine bD ?_ | refine bA ?_ _)); exact BK809.out) hb)
             have n4_ := MK (blk_below (by (with_reducible repeat (first | refine bN ?_ _ | refine bD ?_ | refine bA ?_ _)); exact BK816.out) hb)
             have n5_ := MK (blk_below (by (with_reducible repeat (first | refine bN ?_ _ | refine bD ?_ | refine bA ?_ _)); exact BK824.out) hb)
             have n6_ := MK (below_step (by repeat (first | (with_reducible first | exact HB.out | apply lA | apply lN | apply lD | refine lS ?_ GE809.out | refine lS ?_ GE816.out | refine lS ?_ GE824.out) | exact HB.out)) hb)
             clear HO_4 HO_5 HO_6 BK809 BK816 BK824 HB
             have HO_4 := n0_
             have HO_5 := n1_
             have HO_6 := n2_
             have BK809 := n3_
             have BK816 := n4_
             have BK824 := n5_
             have HB := n6_
             clear n0_ n1_ n2_ n3_ n4_ n5_ n6_
             (try clear hb)
             (try clear hb2)
             (try clear hk)
             (try clear hi)
             refine hK.out _ _ ⟨(blk_cell BK824.out 0).trans rfl, (blk_cell BK824.out 1).trans rfl, (blk_cell BK824.out 2).trans rfl, (blk_cell BK824.out 3).trans rfl, (blk_cell BK824.out 4).trans rfl, (blk_cell BK824.out 5).trans rfl, HS6_, HS7_, HS8_, HS9_, HS10_, HS11_, HS12_, HS13_, HS14_, HS15_, HS16_, HS17_, HS18_, HS19_, HS20_, HS21_, HS22_, HS23_⟩ (fun hHeld => ?_)
             clear hK K
             refine norm_ (a' := ?_) ?_ ?_
             rotate_left
             ·show Act.put _ (some 62) _ = _; simp only [Act.put, List.setIfInBounds_toArray, List.set_cons_zero, List.set_cons_succ, i64_w, i32_w]; rfl
             refine pure_ (i := 21) (N := some 63) (v := ?_) (a' := ?_) #[true, true, true, true, true, true, true, true, true, true, true, true, true, true, true, true, true, true, true, true, true, true, false] rfl rfl (any_of HT_.out (by kernel_rfl)) (fun _ _ _ h => h) (Or.inl ⟨by rfl, ?_⟩) ?_ ?_
             rotate_left
             ·intro w'; go_simp; with_reducible rfl
             rotate_left
             ·simp only [Act.put, List.setIfInBounds_toArray, List.set_cons_zero, List.set_cons_succ, i64_w, i32_w]; rfl
             refine pure_ (i := 22) (N := some 64) (v := ?_) (a' := ?_) #[true, true, true, true, true, true, true, true, true, true, true, true, true, true, true, true, true, true, true, true, true, true, true] rfl rfl (any_of HT_.out (by kernel_rfl)) (fun _ _ _ h => h) (Or.inl ⟨by rfl, ?_⟩) ?_ ?_
             rotate_left
             ·intro w'; go_simp; with_reducible rfl
             rotate_left
             ·simp only [Act.put, List.setIfInBounds_toArray, List.set_cons_zero, List.set_cons_succ, i64_w, i32_w]; rfl
             refine done_ (done_of HT_.out (by kernel_rfl)) ?_
             try go_wp2
             go_meet
             case rel => exact ⟨_, (!t828), (by first | rfl | (simp; done) | (simp [*]; done)), H', ⟨by have := HK1.out; first | omega | exact Nat.le_refl _⟩, ⟨by (with_reducible repeat (first | apply Kd.R_alloc | apply Kd.R_drewN | apply Kd.R_drew)); exact HO_4.out⟩, ⟨by (with_reducible repeat (first | apply Kd.R_alloc | apply Kd.R_drewN | apply Kd.R_drew)); exact HO_5.out⟩, ⟨by (with_reducible repeat (first | apply Kd.R_alloc | apply Kd.R_drewN | apply Kd.R_drew)); exact HO_6.out⟩, ⟨by (with_reducible repeat (first | refine bN ?_ _ | refine bD ?_ | refine bA ?_ _)); exact BK809.out⟩, ⟨by (with_reducible repeat (first | refine bN ?_ _ | refine bD ?_ | refine bA ?_ _)); exact BK816.out⟩, ⟨by (with_reducible repeat (first | refine bN ?_ _ | refine bD ?_ | refine bA ?_ _)); exact BK824.out⟩, ⟨by repeat (first | (with_reducible first | exact HB.out | apply lA | apply lN | apply lD | refine lS ?_ GE809.out | refine lS ?_ GE816.out | refine lS ?_ GE824.out) | exact HB.out)⟩⟩
          ·rw [if_neg c36] at H
           exact absurd H (by simp)
         ·rw [if_neg c35] at H
          exact absurd H (by simp)
        case rest =>
         clear HC24
         (try clear c2)
         obtain ⟨kq, x64_23, rfl, HA, HJ23, HO_4, HO_5, HO_6, BK809, BK816, BK824, HB⟩ := hcut
         cases kq with
         | zero => exact absurd HA.out (by simp [laws_FnRun.j1])
         | succ kj23 =>
          have H := HA.out
          clear HA
          simp only [laws_FnRun.j1] at H
          by_cases c44 : x64_23 = true
          ·subst c44
           have H1 : (some false) = some r := by rw [if_pos rfl] at H; exact H
           clear H
           have H := H1
           clear H1
           obtain rfl := Option.some.inj H
           go_wp2
           go_ret
           exact ⟨by first | rfl | (simp [errW_none, errW_some] <;> rfl) | (simp [*, errW_none, errW_some] <;> rfl), by repeat (first | (with_reducible first | exact HB.out | apply lA | apply lN | apply lD | refine lS ?_ GE809.out | refine lS ?_ GE816.out | refine lS ?_ GE824.out) | exact HB.out)⟩
          ·replace c44 := Bool.eq_false_iff.mpr c44
           subst c44
           have H1 : (laws_FnRun.l0 kj23 t806 t810 t813 (t810.length : Int) (wrap64 (x32_1 + 1)) t801 t802 t803 t804 t805 t819 t820) = some r := by rw [if_neg (show ¬ (false = true) by decide)] at H; exact H
           clear H
           have H := H1
           clear H1
           have H' := MK H
           clear H
           have hnb45 := NB824_809.out
           have hnc45 := NB809_824.out
           have hnb46 := NB824_816.out
           have hnc46 := NB816_824.out
           have hcz47_0 : wc.cell? ⟨gb824, 0, none⟩ = some (.bool t818) := (blk_cell BK824.out 0).trans rfl
           have hcz47_1 : wc.cell? ⟨gb824, 1, none⟩ = some (.int .i64 t819) := (blk_cell BK824.out 1).trans rfl
           have hcz47_2 : wc.cell? ⟨gb824, 2, none⟩ = some (.int .i64 t820) := (blk_cell BK824.out 2).trans rfl
           have hcz47_3 : wc.cell? ⟨gb824, 3, none⟩ = some (.int .i64 t821) := (blk_cell BK824.out 3).trans rfl
           have hcz47_4 : wc.cell? ⟨gb824, 4, none⟩ = some (.bool t822) := (blk_cell BK824.out 4).trans rfl
           have hcz47_5 : wc.cell? ⟨gb824, 5, none⟩ = some (.bool t823) := (blk_cell BK824.out 5).trans rfl
           obtain ⟨hfz47_0, hfz47_1, hfz47_2, hfz47_3, hfz47_4, hfz47_5⟩ := bf6 BK824.out
           have hnb48 := NB816_809.out
           have hnc48 := NB809_816.out
           obtain ⟨hcz49_0, hcz49_1⟩ := bc2 BK816.out
           obtain ⟨hfz49_0, hfz49_1⟩ := bf2 BK816.out
           go_wp2
           go_roundg kj23
           case measure => have := HK1.out; have := HJ23.out; omega
           case rel => exact ⟨(wrap64 (x32_1 + 1)), (t819), (t820), (by first | rfl | (simp; done) | (simp [*]; done)), H', ⟨by have := HK1.out; have := HJ23.out; omega⟩, ⟨by (with_reducible repeat (first | apply Kd.R_alloc | apply Kd.R_drewN | apply Kd.R_drew)); exact Kd.R_mono (Kd.R_far (p := ⟨gb816, 1, none⟩) (Kd.R_far (p := ⟨gb816, 0, none⟩) (Kd.R_types HO_4.out BK816.out (by decide)) (fun _ hk => hk.2) (.int .i64 t819)) (fun _ hk => hk.2) (.int .i64 t820)) (fun _ hk => trivial)⟩, ⟨by (with_reducible repeat (first | apply Kd.R_alloc | apply Kd.R_drewN | apply Kd.R_drew)); exact Kd.R_mono (Kd.R_far (p := ⟨gb816, 1, none⟩) (Kd.R_far (p := ⟨gb816, 0, none⟩) (Kd.R_types HO_5.out BK816.out (by decide)) (fun _ hk => hk.2) (.int .i64 t819)) (fun _ hk => hk.2) (.int .i64 t820)) (fun _ hk => hk.1.1)⟩, ⟨by (with_reducible repeat (first | apply Kd.R_alloc | apply Kd.R_drewN | apply Kd.R_drew)); exact Kd.R_mono (Kd.R_far (p := ⟨gb816, 1, none⟩) (Kd.R_far (p := ⟨gb816, 0, none⟩) (Kd.R_types HO_6.out BK816.out (by decide)) (fun _ hk => hk.2) (.int .i64 t819)) (fun _ hk => hk.2) (.int .i64 t820)) (fun _ hk => hk.1.1)⟩, ⟨by (with_reducible repeat (first | refine bN ?_ _ | refine bD ?_ | refine bA ?_ _)); refine blk_far ?_ NB809_816.out _; (with_reducible repeat (first | refine bN ?_ _ | refine bD ?_ | refine bA ?_ _)); refine blk_far ?_ NB809_816.out _; (with_reducible repeat (first | refine bN ?_ _ | refine bD ?_ | refine bA ?_ _)); exact BK809.out⟩, ⟨by (with_reducible repeat (first | refine bN ?_ _ | refine bD ?_ | refine bA ?_ _)); refine blk_put (cs := #[.int .i64 t819, .int .i64 x817001_1]) ?_ 1 _ rfl; (with_reducible repeat (first | refine bN ?_ _ | refine bD ?_ | refine bA ?_ _)); refine blk_put (cs := #[.int .i64 x817000_1, .int .i64 x817001_1]) ?_ 0 _ rfl; (with_reducible repeat (first | refine bN ?_ _ | refine bD ?_ | refine bA ?_ _)); exact BK816.out⟩, ⟨by repeat (first | (with_reducible first | exact HB.out | apply lA | apply lN | apply lD | refine lS ?_ GE809.out | refine lS ?_ GE816.out | refine lS ?_ GE824.out) | exact HB.out)⟩⟩
       ·rw [if_neg c22] at H
        exact absurd H (by simp)
      ·rw [if_neg c21] at H
       exact absurd H (by simp)
     ·rw [if_neg c20] at H
      have c20b0 : decide (x32_1 < (t810.length : Int)) = false := decide_eq_false c20
      clear c20
      obtain rfl := Option.some.inj H
      go_wp2
      go_ret
      exact ⟨by first | rfl | (simp [errW_none, errW_some] <;> rfl) | (simp [*, errW_none, errW_some] <;> rfl), by repeat (first | (with_reducible first | exact HB.out | apply lA | apply lN | apply lD | refine lS ?_ GE809.out | refine lS ?_ GE816.out) | exact HB.out)⟩
  ·rw [if_neg c16] at H
   have c16b0 : ((t810.length : Int) == (t813.length : Int)) = false := beq_eq_false_iff_ne.mpr c16
   have c16b1 : ((t810.length : Int) != (t813.length : Int)) = true := bne_iff_ne.mpr c16
   have c16b2 : (t810.length == t813.length) = false := by first | simpa using c16 | (simp at c16 ⊢; omega)
   (first | rw [c16b0] | (simp only [i64_w, i32_w]; rw [c16b0]) | rw [c16b1] | skip)
   obtain rfl := Option.some.inj H
   go_wp2
   go_ret
   exact ⟨by first | rfl | (simp [errW_none, errW_some] <;> rfl) | (simp [*, errW_none, errW_some] <;> rfl), by repeat (first | (with_reducible first | exact HB.out | apply lA | apply lN | apply lD | refine lS ?_ GE809.out) | exact HB.out)⟩

/-- THE ONE PURE STATEMENT of laws_FnRun: yours. -/
def laws_FnRun.Pure : Prop := ∀ (l0 : List Int), l0.length ≤ maxLen → l0.length * 1 ≤ 140737488351232 → (∀ x ∈ l0, (Lit.int .u8 x).wf = true) → ∃ k, laws_FnRun.f k l0 = some true
theorem laws_FnRun.walk (P : laws_FnRun.Pure) (a0 : Option Addr) (len0 cap0 : Nat) (z0 : List Int) (w : World) (w0 : (a0 = none ∧ len0 = 0 ∧ cap0 = 0 ∧ z0 = []) ∨ ∃ x, a0 = some x ∧ len0 ≤ cap0 ∧ cap0 ≤ maxLen ∧ z0.length = cap0 ∧ (∀ i, i < z0.length → w.cell? (x.add i) = some (.int .u8 (z0.getD i 0))) ∧ ∀ n ∈ z0, (Lit.int .u8 n).wf = true) (y0 : len0 * 1 ≤ 140737488351232) :
  Calls Try.prog 8 #[.slice a0 len0 cap0] w fun e w' => e = .returned (.bool true) ∧ Below w.heap.size w w' := by
 obtain ⟨l0, rfl, hr0, hm0, hw0, hc0⟩ := ReadsInt.ofRowC w0
 obtain ⟨k, h⟩ := P l0 hm0 y0 hw0
 refine (laws_FnRun.calls k _ _ l0 true w (Kd.C_of_reads (d := (0 : Int)) (h1 := fun _ => rfl) hr0) hc0 h).mono ?_
 rintro e w' ⟨rfl, hd⟩
 exact ⟨rfl, hd⟩

end Go.Proofs.Ytcfhjidddpoijaa.Q
