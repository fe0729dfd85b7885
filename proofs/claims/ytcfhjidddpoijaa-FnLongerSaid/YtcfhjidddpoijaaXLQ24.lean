/- Walks: a call of each function answers what its Lean function tells; no condition but that it tells something. -/
import Derived.Test.YtcfhjidddpoijaaXLQ0
import Derived.Test.YtcfhjidddpoijaaXLQ1
import Derived.Test.YtcfhjidddpoijaaXLQ10
import Derived.Test.YtcfhjidddpoijaaXLQ20
import Derived.Test.YtcfhjidddpoijaaXLQ21
import Derived.Test.YtcfhjidddpoijaaXLQ22
namespace Go.Proofs.Ytcfhjidddpoijaa.Q
open Go.RowKit Go.Proofs.YtcfhjidddpoijaaW.PrintWords Go.Proofs.YtcfhjidddpoijaaW.PrintLast Go.Proofs.YtcfhjidddpoijaaW.PrintMore
attribute [local go_sem] max2_int min2_int max_two min_two max_three min_three max_four min_four   -- for this text's walks alone
set_option linter.unusedVariables false
set_option linter.unusedSimpArgs false

attribute [local go_sem high] eqA33
/-! ### laws_FnLonger: function 7 -/
mutual
def laws_FnLonger.j0 : Nat → List Int → List Int → Bool → Option (Bool)
 | 0, _, _, _ => none
 | k + 1, x0, x1, x18 => if x18 = true then (some true) else ((spec_DrawTick.f k x0).bind fun bt667 => ((impl_Tick.f k bt667.1 bt667.2.1 bt667.2.2.1 bt667.2.2.2.1 bt667.2.2.2.2.1 bt667.2.2.2.2.2.1 bt667.2.2.2.2.2.2.1 bt667.2.2.2.2.2.2.2.1 bt667.2.2.2.2.2.2.2.2.1 bt667.2.2.2.2.2.2.2.2.2.1 bt667.2.2.2.2.2.2.2.2.2.2.1 bt667.2.2.2.2.2.2.2.2.2.2.2).bind fun bt682 => (if bt682.1 = true then (if bt667.2.2.2.2.2.1 = 3 then (laws_FnLonger.j1 k x1 true bt667.1 bt667.2.1 bt667.2.2.1 bt667.2.2.2.1 bt667.2.2.2.2.1 bt667.2.2.2.2.2.1 bt667.2.2.2.2.2.2.1 bt667.2.2.2.2.2.2.2.1 bt667.2.2.2.2.2.2.2.2.1 bt667.2.2.2.2.2.2.2.2.2.1 bt667.2.2.2.2.2.2.2.2.2.2.1 bt667.2.2.2.2.2.2.2.2.2.2.2 bt682.1 bt682.2.1 bt682.2.2.1 bt682.2.2.2.1 bt682.2.2.2.2.1 bt682.2.2.2.2.2) else (laws_FnLonger.j1 k x1 (bt682.2.1 == 3) bt667.1 bt667.2.1 bt667.2.2.1 bt667.2.2.2.1 bt667.2.2.2.2.1 bt667.2.2.2.2.2.1 bt667.2.2.2.2.2.2.1 bt667.2.2.2.2.2.2.2.1 bt667.2.2.2.2.2.2.2.2.1 bt667.2.2.2.2.2.2.2.2.2.1 bt667.2.2.2.2.2.2.2.2.2.2.1 bt667.2.2.2.2.2.2.2.2.2.2.2 bt682.1 bt682.2.1 bt682.2.2.1 bt682.2.2.2.1 bt682.2.2.2.2.1 bt682.2.2.2.2.2)) else (laws_FnLonger.j1 k x1 true bt667.1 bt667.2.1 bt667.2.2.1 bt667.2.2.2.1 bt667.2.2.2.2.1 bt667.2.2.2.2.2.1 bt667.2.2.2.2.2.2.1 bt667.2.2.2.2.2.2.2.1 bt667.2.2.2.2.2.2.2.2.1 bt667.2.2.2.2.2.2.2.2.2.1 bt667.2.2.2.2.2.2.2.2.2.2.1 bt667.2.2.2.2.2.2.2.2.2.2.2 bt682.1 bt682.2.1 bt682.2.2.1 bt682.2.2.2.1 bt682.2.2.2.2.1 bt682.2.2.2.2.2))))
def laws_FnLonger.j1 : Nat → List Int → Bool → Int → Int → Int → Int → Int → Int → Int → Int → Int → Int → Int → Bool → Bool → Int → Int → Int → Bool → Bool → Option (Bool)
 | 0, _, _, _, _, _, _, _, _, _, _, _, _, _, _, _, _, _, _, _, _ => none
 | k + 1, x1, x42, x680000, x680001, x680002, x680003, x680004, x681000, x681001, x682000, x682001, x682002, x682003, x682004, x689000, x689001, x689002, x689003, x689004, x689005 => if x42 = true then ((spec_Tick.f k x680000 x680001 x680002 x680003 x680004 x681000 x681001 x682000 x682001 x682002 x682003 x682004).bind fun bt689 => (some (x689000 == bt689.1 && ((x689001 == bt689.2.1 && (x689002 == bt689.2.2.1)) && (x689003 == bt689.2.2.2.1 && (x689004 == bt689.2.2.2.2.1 && (x689005 == bt689.2.2.2.2.2))))))) else ((laws_wByte.f x1 0).bind fun t696 => (if (Int.tmod t696 3) = 0 then ((laws_wByte.f x1 1).bind fun t697 => ((impl_Tick.f k x680000 x680001 x680002 x680003 x680004 x681000 x681001 x682000 x682001 (wrap64 (x682002 + t697)) x682003 x682004).bind fun bt698 => (if bt698.1 = true then (some (bt698.2.1 != 3)) else (if (wrap64 (x682002 + t697)) > 100000000 then (some true) else (some false))))) else (if (Int.tmod t696 3) = 1 then ((laws_wByte.f x1 1).bind fun t705 => (if (wrap64 (x682001 + 1)) = 0 then (none) else ((impl_Tick.f k x680000 x680001 x680002 x680003 x680004 x681000 x681001 x682000 (wrap64 (x682001 - (Int.tmod t705 (wrap64 (x682001 + 1))))) x682002 x682003 x682004).bind fun bt706 => (if bt706.1 = true then (some (bt706.2.1 != 3)) else (if x682002 > 100000000 then (some true) else (some false)))))) else ((laws_wByte.f x1 1).bind fun t713 => (if (wrap64 (x682000 + 1)) = 0 then (none) else ((impl_Tick.f k x680000 x680001 x680002 x680003 x680004 x681000 x681001 (wrap64 (x682000 - (Int.tmod t713 (wrap64 (x682000 + 1))))) x682001 x682002 x682003 x682004).bind fun bt714 => (if bt714.1 = true then (some (bt714.2.1 != 3)) else (if x682002 > 100000000 then (some true) else (some false)))))))))
end
def laws_FnLonger.f (k : Nat) (l0 : List Int) (l1 : List Int) : Option (Bool) := if (l0.length : Int) > 1048576 then (laws_FnLonger.j0 k l0 l1 true) else (laws_FnLonger.j0 k l0 l1 (decide ((l1.length : Int) > 1048576)))
def laws_FnLonger.T9 : Bool × List (List Nat × List Nat) := (true, [([], []), ([0], [0]), ([], []), ([2], [2]), ([], []), ([4], [4]), ([5], [5]), ([3, 6], [3, 6]), ([1, 7], [1, 7]), ([0, 1, 2, 3, 4, 5, 6, 7, 8], []), ([9, 8, 3, 0, 1, 2, 3, 4, 5, 6, 7, 8], [8, 9])])
def laws_FnLonger.B9 : List Nat := [0, 1, 0, 4, 0, 16, 48, 124, 255, 511, 1023]
theorem laws_FnLonger.tab9 : rtab .any (opsOf Try.f7 9) = laws_FnLonger.T9 := by kernel_rfl
theorem laws_FnLonger.bits9 : waitsOk laws_FnLonger.T9.2 laws_FnLonger.B9 = true := by kernel_rfl
def laws_FnLonger.T13 : Bool × List (List Nat × List Nat) := (true, [([], []), ([0], [0]), ([], []), ([2], [2]), ([], []), ([4], [4]), ([5], [5]), ([3, 6], [3, 6]), ([1, 7], [1, 7]), ([0, 1, 2, 3, 4, 5, 6, 7, 8], []), ([9, 8, 3, 0, 1, 2, 3, 4, 5, 6, 7, 8], [8, 9])])
def laws_FnLonger.B13 : List Nat := [0, 1, 0, 4, 0, 16, 48, 124, 255, 511, 1023]
theorem laws_FnLonger.tab13 : rtab .any (opsOf Try.f7 13) = laws_FnLonger.T13 := by kernel_rfl
theorem laws_FnLonger.bits13 : waitsOk laws_FnLonger.T13.2 laws_FnLonger.B13 = true := by kernel_rfl
set_option maxHeartbeats 8000000 in
set_option maxRecDepth 100000 in
theorem laws_FnLonger.calls (k : Nat) (A0 : Option Addr) (c0 : Nat) (l0 : List Int) (A1 : Option Addr) (c1 : Nat) (l1 : List Int) (r : Bool) (w : World) (hr0 : Kd.C (Kd.int .u8) w A0 l0.length l0) (hc0 : l0.length ≤ c0) (hr1 : Kd.C (Kd.int .u8) w A1 l1.length l1) (hc1 : l1.length ≤ c1) (h : laws_FnLonger.f k l0 l1 = some r) :
  Calls Try.prog 7 #[.slice A0 l0.length c0, .slice A1 l1.length c1] w fun e w' => e = .returned (.bool r) ∧ Below w.heap.size w w' := by
 have hu24 := Try.underlying24
 have hu31 := Try.underlying31
 have hu44 := Try.underlying44
 have hu33 := Try.underlying33
 have HR0 := MK hr0
 have HC0 := MK hc0
 clear hr0 hc0
 have HR1 := MK hr1
 have HC1 := MK hc1
 clear hr1 hc1
 have HB := MK (Below.refl w.heap.size w)
 have H : (if (l0.length : Int) > 1048576 then (laws_FnLonger.j0 k l0 l1 true) else (laws_FnLonger.j0 k l0 l1 (decide ((l1.length : Int) > 1048576)))) = some r := h
 clear h
 have HC3 := MK H
 clear H
 go_enter Try.func7, Try.ntmps7
 go_upto_region 1 with (fail)
 go_cut [18] (fun v18 wc => ∃ (kq : Nat) (x18_2 : Bool), v18 = .bool x18_2 ∧ Aside0 (laws_FnLonger.j0 kq l0 l1 x18_2 = some r) ∧ Aside0 (kq ≤ k) ∧ Aside0 (Below w.heap.size w wc))
 case first =>
  have H := HC3.out
  clear HC3
  by_cases c4 : (l0.length : Int) > 1048576
  ·rw [if_pos c4] at H
   have c4b0 : decide (1048576 < (l0.length : Int)) = true := decide_eq_true c4
   have c4b1 : decide (1048576 < l0.length) = true := decide_eq_true (by omega)
   clear c4
   (first | rw [c4b0] | (simp only [i64_w, i32_w]; rw [c4b0]) | skip)
   have H' := MK H
   clear H
   go_wp2
   go_meet
   case rel => exact ⟨_, (true), (by first | rfl | (simp; done) | (simp [*]; done)), H', ⟨by first | omega | exact Nat.le_refl _⟩, ⟨by repeat (first | (with_reducible first | exact HB.out | apply lA | apply lN | apply lD) | exact HB.out)⟩⟩
  ·rw [if_neg c4] at H
   have c4b0 : decide (1048576 < (l0.length : Int)) = false := decide_eq_false c4
   have c4b1 : decide (1048576 < l0.length) = false := decide_eq_false (by omega)
   clear c4
   (first | rw [c4b0] | (simp only [i64_w, i32_w]; rw [c4b0]) | skip)
   have H' := MK H
   clear H
   go_wp2
   go_meet
   case rel => exact ⟨_, (decide ((l1.length : Int) > 1048576)), (by first | rfl | (simp; done) | (simp [*]; done)), H', ⟨by first | omega | exact Nat.le_refl _⟩, ⟨by repeat (first | (with_reducible first | exact HB.out | apply lA | apply lN | apply lD) | exact HB.out)⟩⟩
 case rest =>
  clear HC3
  (try clear c1)
  obtain ⟨kq, x18_2, rfl, HA, HJ2, HB⟩ := hcut
  cases kq with
  | zero => exact absurd HA.out (by simp [laws_FnLonger.j0])
  | succ kj2 =>
   have H := HA.out
   clear HA
   simp only [laws_FnLonger.j0] at H
   by_cases c5 : x18_2 = true
   ·subst c5
    have H1 : (some true) = some r := by rw [if_pos rfl] at H; exact H
    clear H
    have H := H1
    clear H1
    obtain rfl := Option.some.inj H
    go_wp2
    go_ret
    exact ⟨by first | rfl | (simp [errW_none, errW_some] <;> rfl) | (simp [*, errW_none, errW_some] <;> rfl), by repeat (first | (with_reducible first | exact HB.out | apply lA | apply lN | apply lD) | exact HB.out)⟩
   ·replace c5 := Bool.eq_false_iff.mpr c5
    subst c5
    have H1 : ((spec_DrawTick.f kj2 l0).bind fun bt667 => ((impl_Tick.f kj2 bt667.1 bt667.2.1 bt667.2.2.1 bt667.2.2.2.1 bt667.2.2.2.2.1 bt667.2.2.2.2.2.1 bt667.2.2.2.2.2.2.1 bt667.2.2.2.2.2.2.2.1 bt667.2.2.2.2.2.2.2.2.1 bt667.2.2.2.2.2.2.2.2.2.1 bt667.2.2.2.2.2.2.2.2.2.2.1 bt667.2.2.2.2.2.2.2.2.2.2.2).bind fun bt682 => (if bt682.1 = true then (if bt667.2.2.2.2.2.1 = 3 then (laws_FnLonger.j1 kj2 l1 true bt667.1 bt667.2.1 bt667.2.2.1 bt667.2.2.2.1 bt667.2.2.2.2.1 bt667.2.2.2.2.2.1 bt667.2.2.2.2.2.2.1 bt667.2.2.2.2.2.2.2.1 bt667.2.2.2.2.2.2.2.2.1 bt667.2.2.2.2.2.2.2.2.2.1 bt667.2.2.2.2.2.2.2.2.2.2.1 bt667.2.2.2.2.2.2.2.2.2.2.2 bt682.1 bt682.2.1 bt682.2.2.1 bt682.2.2.2.1 bt682.2.2.2.2.1 bt682.2.2.2.2.2) else (laws_FnLonger.j1 kj2 l1 (bt682.2.1 == 3) bt667.1 bt667.2.1 bt667.2.2.1 bt667.2.2.2.1 bt667.2.2.2.2.1 bt667.2.2.2.2.2.1 bt667.2.2.2.2.2.2.1 bt667.2.2.2.2.2.2.2.1 bt667.2.2.2.2.2.2.2.2.1 bt667.2.2.2.2.2.2.2.2.2.1 bt667.2.2.2.2.2.2.2.2.2.2.1 bt667.2.2.2.2.2.2.2.2.2.2.2 bt682.1 bt682.2.1 bt682.2.2.1 bt682.2.2.2.1 bt682.2.2.2.2.1 bt682.2.2.2.2.2)) else (laws_FnLonger.j1 kj2 l1 true bt667.1 bt667.2.1 bt667.2.2.1 bt667.2.2.2.1 bt667.2.2.2.2.1 bt667.2.2.2.2.2.1 bt667.2.2.2.2.2.2.1 bt667.2.2.2.2.2.2.2.1 bt667.2.2.2.2.2.2.2.2.1 bt667.2.2.2.2.2.2.2.2.2.1 bt667.2.2.2.2.2.2.2.2.2.2.1 bt667.2.2.2.2.2.2.2.2.2.2.2 bt682.1 bt682.2.1 bt682.2.2.1 bt682.2.2.2.1 bt682.2.2.2.2.1 bt682.2.2.2.2.2)))) = some r := by rw [if_neg (show ¬ (false = true) by decide)] at H; exact H
    clear H
    have H := H1
    clear H1
    replace H := Option.bind_eq_some_iff.mp H
    obtain ⟨⟨t667, t668, t669, t670, t671, t672, t673, t674, t675, t676, t677, t678⟩, A60, H⟩ := H
    replace H : ((impl_Tick.f kj2 t667 t668 t669 t670 t671 t672 t673 t674 t675 t676 t677 t678).bind fun bt682 => (if bt682.1 = true then (if t672 = 3 then (laws_FnLonger.j1 kj2 l1 true t667 t668 t669 t670 t671 t672 t673 t674 t675 t676 t677 t678 bt682.1 bt682.2.1 bt682.2.2.1 bt682.2.2.2.1 bt682.2.2.2.2.1 bt682.2.2.2.2.2) else (laws_FnLonger.j1 kj2 l1 (bt682.2.1 == 3) t667 t668 t669 t670 t671 t672 t673 t674 t675 t676 t677 t678 bt682.1 bt682.2.1 bt682.2.2.1 bt682.2.2.2.1 bt682.2.2.2.2.1 bt682.2.2.2.2.2)) else (laws_FnLonger.j1 kj2 l1 true t667 t668 t669 t670 t671 t672 t673 t674 t675 t676 t677 t678 bt682.1 bt682.2.1 bt682.2.2.1 bt682.2.2.2.1 bt682.2.2.2.2.1 bt682.2.2.2.2.2))) = some r := H
    have A6 := MK A60
    clear A60
    replace H := Option.bind_eq_some_iff.mp H
    obtain ⟨⟨t682, t683, t684, t685, t686, t687⟩, A70, H⟩ := H
    replace H : (if t682 = true then (if t672 = 3 then (laws_FnLonger.j1 kj2 l1 true t667 t668 t669 t670 t671 t672 t673 t674 t675 t676 t677 t678 t682 t683 t684 t685 t686 t687) else (laws_FnLonger.j1 kj2 l1 (t683 == 3) t667 t668 t669 t670 t671 t672 t673 t674 t675 t676 t677 t678 t682 t683 t684 t685 t686 t687)) else (laws_FnLonger.j1 kj2 l1 true t667 t668 t669 t670 t671 t672 t673 t674 t675 t676 t677 t678 t682 t683 t684 t685 t686 t687)) = some r := H
    have A7 := MK A70
    clear A70
    have HC8 := MK H
    clear H
    go_upto_region 5 with (first | ((with_reducible refine gate_callee (f := 20) rfl ?_); refine goesL_ (some 21) rfl rfl Try.func20 (by kernel_rfl) rfl #[.slice A0 l0.length c0] rfl (by (try simp only [List.map_toArray, List.map_cons, List.map_nil]); first | done | rfl | (simp only [List.length_drop, List.length_take]; rfl)) ?_; (with_reducible refine (spec_DrawTick.calls kj2 _ _ l0 t667 t668 t669 t670 t671 t672 t673 t674 t675 t676 t677 t678 _ ?side1 ?side2 A6.out).mono ?_); (case side1 => repeat (first | exact (Kd.C_below HR0.out HB.out) | (with_reducible refine Kd.C_alloc ?_ _) | (with_reducible refine Kd.C_drewN ?_ _) | (with_reducible refine Kd.C_drew ?_))); (case side2 => exact HC0.out); rintro e w9 ⟨rfl, hb⟩; refine ⟨_, rfl, ?_⟩; have n0_ := MK (below_step (by repeat (first | (with_reducible first | exact HB.out | apply lA | apply lN | apply lD) | exact HB.out)) hb); clear HB; have HB := n0_; clear n0_; (try clear hb); (try clear hb2); (try clear hk); (try clear hi)) | ((with_reducible refine gate_dst (N := 5) rfl ?_); (try (refine gate_guard (by rfl) ?_; dsimp only)); refine box_event ?hg (N := 5) ?hd (cs := #[.int .i64 0, .int .i64 0, .int .i64 0, .int .i64 0, .int .i64 0]) (t := 24) ?hr ?_; (case hd => rfl); (case hg => rfl); (case hr => first | (go_simp; done) | (go_simp; rfl)); intro gb679 hg w10 hbox hb; have n0_ := MK (below_step (by repeat (first | (with_reducible first | exact HB.out | apply lA | apply lN | apply lD) | exact HB.out)) hb); have n1_ := MK (hbox); have n2_ := MK ((by rw [hg]; exact (below_size (by repeat (first | (with_reducible first | exact HB.out | apply lA | apply lN | apply lD) | exact HB.out))) : w.heap.size ≤ gb679)); have n3_ := MK ((by rw [hg]; exact (below_size (by repeat (first | (with_reducible first | exact HB.out | apply lA | apply lN | apply lD) | exact HB.out))) : w.heap.size ≤ gb679)); clear HB; have HB := n0_; have BK679 := n1_; have GW679 := n2_; have GE679 := n3_; clear n0_ n1_ n2_ n3_; clear hb hbox hg) | ((with_reducible refine gate_dst (N := 6) rfl ?_); (try (refine gate_guard (by rfl) ?_; dsimp only)); refine box_event ?hg (N := 6) ?hd (cs := #[.int .i64 0, .int .i64 0]) (t := 31) ?hr ?_; (case hd => rfl); (case hg => rfl); (case hr => first | (go_simp; done) | (go_simp; rfl)); intro gb680 hg w11 hbox hb; have n0_ := MK (blk_below (by (with_reducible repeat (first | refine bN ?_ _ | refine bD ?_ | refine bA ?_ _)); exact BK679.out) hb); have n1_ := MK (below_step (by repeat (first | (with_reducible first | exact HB.out | apply lA | apply lN | apply lD | refine lS ?_ GE679.out) | exact HB.out)) hb); have n2_ := MK (hbox); have n3_ := MK ((by rw [hg]; exact (below_size (by repeat (first | (with_reducible first | exact HB.out | apply lA | apply lN | apply lD | refine lS ?_ GE679.out) | exact HB.out))) : w.heap.size ≤ gb680)); have n4_ := MK ((by rw [hg]; exact (below_size (by repeat (first | (with_reducible first | exact HB.out | apply lA | apply lN | apply lD | refine lS ?_ GE679.out) | exact HB.out))) : w.heap.size ≤ gb680)); have n5_ := MK ((by rw [hg]; exact Nat.ne_of_lt (blk_lt (by (with_reducible repeat (first | refine bN ?_ _ | refine bD ?_ | refine bA ?_ _)); exact BK679.out)) : gb679 ≠ gb680)); have n6_ := MK ((by rw [hg]; exact Nat.ne_of_gt (blk_lt (by (with_reducible repeat (first | refine bN ?_ _ | refine bD ?_ | refine bA ?_ _)); exact BK679.out)) : gb680 ≠ gb679)); clear BK679; clear HB; have BK679 := n0_; have HB := n1_; have BK680 := n2_; have GW680 := n3_; have GE680 := n4_; have NB679_680 := n5_; have NB680_679 := n6_; clear n0_ n1_ n2_ n3_ n4_ n5_ n6_; clear hb hbox hg) | ((with_reducible refine gate_dst (N := 7) rfl ?_); (try (refine gate_guard (by rfl) ?_; dsimp only)); refine box_event ?hg (N := 7) ?hd (cs := #[.int .i64 0, .int .i64 0, .int .i64 0, .int .i64 0, .bool false]) (t := 44) ?hr ?_; (case hd => rfl); (case hg => rfl); (case hr => first | (go_simp; done) | (go_simp; rfl)); intro gb681 hg w12 hbox hb; have n0_ := MK (blk_below (by (with_reducible repeat (first | refine bN ?_ _ | refine bD ?_ | refine bA ?_ _)); exact BK679.out) hb); have n1_ := MK (blk_below (by (with_reducible repeat (first | refine bN ?_ _ | refine bD ?_ | refine bA ?_ _)); exact BK680.out) hb); have n2_ := MK (below_step (by repeat (first | (with_reducible first | exact HB.out | apply lA | apply lN | apply lD | refine lS ?_ GE679.out | refine lS ?_ GE680.out) | exact HB.out)) hb); have n3_ := MK (hbox); have n4_ := MK ((by rw [hg]; exact (below_size (by repeat (first | (with_reducible first | exact HB.out | apply lA | apply lN | apply lD | refine lS ?_ GE679.out | refine lS ?_ GE680.out) | exact HB.out))) : w.heap.size ≤ gb681)); have n5_ := MK ((by rw [hg]; exact (below_size (by repeat (first | (with_reducible first | exact HB.out | apply lA | apply lN | apply lD | refine lS ?_ GE679.out | refine lS ?_ GE680.out) | exact HB.out))) : w.heap.size ≤ gb681)); have n6_ := MK ((by rw [hg]; exact Nat.ne_of_lt (blk_lt (by (with_reducible repeat (first | refine bN ?_ _ | refine bD ?_ | refine bA ?_ _)); exact BK679.out)) : gb679 ≠ gb681)); have n7_ := MK ((by rw [hg]; exact Nat.ne_of_gt (blk_lt (by (with_reducible repeat (first | refine bN ?_ _ | refine bD ?_ | refine bA ?_ _)); exact BK679.out)) : gb681 ≠ gb679)); have n8_ := MK ((by rw [hg]; exact Nat.ne_of_lt (blk_lt (by (with_reducible repeat (first | refine bN ?_ _ | refine bD ?_ | refine bA ?_ _)); exact BK680.out)) : gb680 ≠ gb681)); have n9_ := MK ((by rw [hg]; exact Nat.ne_of_gt (blk_lt (by (with_reducible repeat (first | refine bN ?_ _ | refine bD ?_ | refine bA ?_ _)); exact BK680.out)) : gb681 ≠ gb680)); clear BK679; clear BK680; clear HB; have BK679 := n0_; have BK680 := n1_; have HB := n2_; have BK681 := n3_; have GW681 := n4_; have GE681 := n5_; have NB679_681 := n6_; have NB681_679 := n7_; have NB680_681 := n8_; have NB681_680 := n9_; clear n0_ n1_ n2_ n3_ n4_ n5_ n6_ n7_ n8_ n9_; clear hb hbox hg; have hnb13 := NB679_680.out; have hnc13 := NB680_679.out; have hnb14 := NB679_681.out; have hnc14 := NB681_679.out; obtain ⟨hcz15_0, hcz15_1, hcz15_2, hcz15_3, hcz15_4⟩ := bc5 BK679.out; obtain ⟨hfz15_0, hfz15_1, hfz15_2, hfz15_3, hfz15_4⟩ := bf5 BK679.out; have hnb16 := NB680_681.out; have hnc16 := NB681_680.out; obtain ⟨hcz17_0, hcz17_1⟩ := bc2 BK680.out; obtain ⟨hfz17_0, hfz17_1⟩ := bf2 BK680.out; obtain ⟨hcz18_0, hcz18_1, hcz18_2, hcz18_3, hcz18_4⟩ := bc5 BK681.out; obtain ⟨hfz18_0, hfz18_1, hfz18_2, hfz18_3, hfz18_4⟩ := bf5 BK681.out) | ((with_reducible refine gate_callee (f := 21) rfl ?_); refine goesL_ (some 28) rfl rfl Try.func21 (by kernel_rfl) rfl #[.agg #[.int .i64 t667, .int .i64 t668, .int .i64 t669, .int .i64 t670, .int .i64 t671], .agg #[.int .i64 t672, .int .i64 t673], .agg #[.int .i64 t674, .int .i64 t675, .int .i64 t676, .int .i64 t677, .bool t678]] rfl (by (try simp only [List.map_toArray, List.map_cons, List.map_nil]); first | done | rfl | (simp only [List.length_drop, List.length_take]; rfl)) ?_; (with_reducible refine (impl_Tick.calls kj2 t667 t668 t669 t670 t671 t672 t673 t674 t675 t676 t677 t678 t682 t683 t684 t685 t686 t687 _ A7.out).mono ?_); rintro e w19 ⟨rfl, hb⟩; refine ⟨_, rfl, ?_⟩; have n0_ := MK (blk_below (g := gb679) (o := .cells #[.int .i64 t667, .int .i64 t668, .int .i64 t669, .int .i64 t670, .int .i64 t671] 24 (0, 0)) (by (with_reducible repeat (first | refine bN ?_ _ | refine bD ?_ | refine bA ?_ _)); refine blk_far ?_ NB679_681.out _; (with_reducible repeat (first | refine bN ?_ _ | refine bD ?_ | refine bA ?_ _)); refine blk_far ?_ NB679_681.out _; (with_reducible repeat (first | refine bN ?_ _ | refine bD ?_ | refine bA ?_ _)); refine blk_far ?_ NB679_681.out _; (with_reducible repeat (first | refine bN ?_ _ | refine bD ?_ | refine bA ?_ _)); refine blk_far ?_ NB679_681.out _; (with_reducible repeat (first | refine bN ?_ _ | refine bD ?_ | refine bA ?_ _)); refine blk_far ?_ NB679_681.out _; (with_reducible repeat (first | refine bN ?_ _ | refine bD ?_ | refine bA ?_ _)); refine blk_far ?_ NB679_680.out _; (with_reducible repeat (first | refine bN ?_ _ | refine bD ?_ | refine bA ?_ _)); refine blk_far ?_ NB679_680.out _; (with_reducible repeat (first | refine bN ?_ _ | refine bD ?_ | refine bA ?_ _)); refine blk_put (cs := #[.int .i64 t667, .int .i64 t668, .int .i64 t669, .int .i64 t670, .int .i64 0]) ?_ 4 _ rfl; (with_reducible repeat (first | refine bN ?_ _ | refine bD ?_ | refine bA ?_ _)); refine blk_put (cs := #[.int .i64 t667, .int .i64 t668, .int .i64 t669, .int .i64 0, .int .i64 0]) ?_ 3 _ rfl; (with_reducible repeat (first | refine bN ?_ _ | refine bD ?_ | refine bA ?_ _)); refine blk_put (cs := #[.int .i64 t667, .int .i64 t668, .int .i64 0, .int .i64 0, .int .i64 0]) ?_ 2 _ rfl; (with_reducible repeat (first | refine bN ?_ _ | refine bD ?_ | refine bA ?_ _)); refine blk_put (cs := #[.int .i64 t667, .int .i64 0, .int .i64 0, .int .i64 0, .int .i64 0]) ?_ 1 _ rfl; (with_reducible repeat (first | refine bN ?_ _ | refine bD ?_ | refine bA ?_ _)); refine blk_put (cs := #[.int .i64 0, .int .i64 0, .int .i64 0, .int .i64 0, .int .i64 0]) ?_ 0 _ rfl; (with_reducible repeat (first | refine bN ?_ _ | refine bD ?_ | refine bA ?_ _)); exact BK679.out) hb); have n1_ := MK (blk_below (g := gb680) (o := .cells #[.int .i64 t672, .int .i64 t673] 31 (0, 0)) (by (with_reducible repeat (first | refine bN ?_ _ | refine bD ?_ | refine bA ?_ _)); refine blk_far ?_ NB680_681.out _; (with_reducible repeat (first | refine bN ?_ _ | refine bD ?_ | refine bA ?_ _)); refine blk_far ?_ NB680_681.out _; (with_reducible repeat (first | refine bN ?_ _ | refine bD ?_ | refine bA ?_ _)); refine blk_far ?_ NB680_681.out _; (with_reducible repeat (first | refine bN ?_ _ | refine bD ?_ | refine bA ?_ _)); refine blk_far ?_ NB680_681.out _; (with_reducible repeat (first | refine bN ?_ _ | refine bD ?_ | refine bA ?_ _)); refine blk_far ?_ NB680_681.out _; (with_reducible repeat (first | refine bN ?_ _ | refine bD ?_ | refine bA ?_ _)); refine blk_put (cs := #[.int .i64 t672, .int .i64 0]) ?_ 1 _ rfl; (with_reducible repeat (first | refine bN ?_ _ | refine bD ?_ | refine bA ?_ _)); refine blk_put (cs := #[.int .i64 0, .int .i64 0]) ?_ 0 _ rfl; (with_reducible repeat (first | refine bN ?_ _ | refine bD ?_ | refine bA ?_ _)); refine blk_far ?_ NB680_679.out _; (with_reducible repeat (first | refine bN ?_ _ | refine bD ?_ | refine bA ?_ _)); refine blk_far ?_ NB680_679.out _; (with_reducible repeat (first | refine bN ?_ _ | refine bD ?_ | refine bA ?_ _)); refine blk_far ?_ NB680_679.out _; (with_reducible repeat (first | refine bN ?_ _ | refine bD ?_ | refine bA ?_ _)); refine blk_far ?_ NB680_679.out _; (with_reducible repeat (first | refine bN ?_ _ | refine bD ?_ | refine bA ?_ _)); refine blk_far ?_ NB680_679.out _; (with_reducible repeat (first | refine bN ?_ _ | refine bD ?_ | refine bA ?_ _)); exact BK680.out) hb); have n2_ := MK (blk_below (g := gb681) (o := .cells #[.int .i64 t674, .int .i64 t675, .int .i64 t676, .int .i64 t677, .bool t678] 44 (0, 0)) (by (with_reducible repeat (first | refine bN ?_ _ | refine bD ?_ | refine bA ?_ _)); refine blk_put (cs := #[.int .i64 t674, .int .i64 t675, .int .i64 t676, .int .i64 t677, .bool false]) ?_ 4 _ rfl; (with_reducible repeat (first | refine bN ?_ _ | refine bD ?_ | refine bA ?_ _)); refine blk_put (cs := #[.int .i64 t674, .int .i64 t675, .int .i64 t676, .int .i64 0, .bool false]) ?_ 3 _ rfl; (with_reducible repeat (first | refine bN ?_ _ | refine bD ?_ | refine bA ?_ _)); refine blk_put (cs := #[.int .i64 t674, .int .i64 t675, .int .i64 0, .int .i64 0, .bool false]) ?_ 2 _ rfl; (with_reducible repeat (first | refine bN ?_ _ | refine bD ?_ | refine bA ?_ _)); refine blk_put (cs := #[.int .i64 t674, .int .i64 0, .int .i64 0, .int .i64 0, .bool false]) ?_ 1 _ rfl; (with_reducible repeat (first | refine bN ?_ _ | refine bD ?_ | refine bA ?_ _)); refine blk_put (cs := #[.int .i64 0, .int .i64 0, .int .i64 0, .int .i64 0, .bool false]) ?_ 0 _ rfl; (with_reducible repeat (first | refine bN ?_ _ | refine bD ?_ | refine bA ?_ _)); refine blk_far ?_ NB681_680.out _; (with_reducible repeat (first | refine bN ?_ _ | refine bD ?_ | refine bA ?_ _)); refine blk_far ?_ NB681_680.out _; (with_reducible repeat (first | refine bN ?_ _ | refine bD ?_ | refine bA ?_ _)); refine blk_far ?_ NB681_679.out _; (with_reducible repeat (first | refine bN ?_ _ | refine bD ?_ | refine bA ?_ _)); refine blk_far ?_ NB681_679.out _; (with_reducible repeat (first | refine bN ?_ _ | refine bD ?_ | refine bA ?_ _)); refine blk_far ?_ NB681_679.out _; (with_reducible repeat (first | refine bN ?_ _ | refine bD ?_ | refine bA ?_ _)); refine blk_far ?_ NB681_679.out _; (with_reducible repeat (first | refine bN ?_ _ | refine bD ?_ | refine bA ?_ _)); refine blk_far ?_ NB681_679.out _; (with_reducible repeat (first | refine bN ?_ _ | refine bD ?_ | refine bA ?_ _)); exact BK681.out) hb); have n3_ := MK (below_step (by repeat (first | (with_reducible first | exact HB.out | apply lA | apply lN | apply lD | refine lS ?_ GE679.out | refine lS ?_ GE680.out | refine lS ?_ GE681.out) | exact HB.out)) hb); clear BK679; clear BK680; clear BK681; clear HB; have BK679 := n0_; have BK680 := n1_; have BK681 := n2_; have HB := n3_; clear n0_ n1_ n2_ n3_; (try clear hb); (try clear hb2); (try clear hk); (try clear hi)) | ((with_reducible refine gate_dst (N := 8) rfl ?_); (try (refine gate_guard (by rfl) ?_; dsimp only)); refine box_event ?hg (N := 8) ?hd (cs := #[.bool false, .int .i64 0, .int .i64 0, .int .i64 0, .bool false, .bool false]) (t := 33) ?hr ?_; (case hd => rfl); (case hg => rfl); (case hr => first | (go_simp; done) | (go_simp; rfl)); intro gb688 hg w20 hbox hb; have n0_ := MK (blk_below (by (with_reducible repeat (first | refine bN ?_ _ | refine bD ?_ | refine bA ?_ _)); exact BK679.out) hb); have n1_ := MK (blk_below (by (with_reducible repeat (first | refine bN ?_ _ | refine bD ?_ | refine bA ?_ _)); exact BK680.out) hb); have n2_ := MK (blk_below (by (with_reducible repeat (first | refine bN ?_ _ | refine bD ?_ | refine bA ?_ _)); exact BK681.out) hb); have n3_ := MK (below_step (by repeat (first | (with_reducible first | exact HB.out | apply lA | apply lN | apply lD | refine lS ?_ GE679.out | refine lS ?_ GE680.out | refine lS ?_ GE681.out) | exact HB.out)) hb); have n4_ := MK (hbox); have n5_ := MK ((by rw [hg]; exact (below_size (by repeat (first | (with_reducible first | exact HB.out | apply lA | apply lN | apply lD | refine lS ?_ GE679.out | refine lS ?_ GE680.out | refine lS ?_ GE681.out) | exact HB.out))) : w.heap.size ≤ gb688)); have n6_ := MK ((by rw [hg]; exact (below_size (by repeat (first | (with_reducible first | exact HB.out | apply lA | apply lN | apply lD | refine lS ?_ GE679.out | refine lS ?_ GE680.out | refine lS ?_ GE681.out) | exact HB.out))) : w.heap.size ≤ gb688)); have n7_ := MK ((by rw [hg]; exact Nat.ne_of_lt (blk_lt (by (with_reducible repeat (first | refine bN ?_ _ | refine bD ?_ | refine bA ?_ _)); exact BK679.out)) : gb679 ≠ gb688)); have n8_ := MK ((by rw [hg]; exact Nat.ne_of_gt (blk_lt (by (with_reducible repeat (first | refine bN ?_ _ | refine bD ?_ | refine bA ?_ _)); exact BK679.out)) : gb688 ≠ gb679)); have n9_ := MK ((by rw [hg]; exact Nat.ne_of_lt (blk_lt (by (with_reducible repeat (first | refine bN ?_ _ | refine bD ?_ | refine bA ?_ _)); exact BK680.out)) : gb680 ≠ gb688)); have n10_ := MK ((by rw [hg]; exact Nat.ne_of_gt (blk_lt (by (with_reducible repeat (first | refine bN ?_ _ | refine bD ?_ | refine bA ?_ _)); exact BK680.out)) : gb688 ≠ gb680)); have n11_ := MK ((by rw [hg]; exact Nat.ne_of_lt (blk_lt (by (with_reducible repeat (first | refine bN ?_ _ | refine bD ?_ | refine bA ?_ _)); exact BK681.out)) : gb681 ≠ gb688)); have n12_ := MK ((by rw [hg]; exact Nat.ne_of_gt (blk_lt (by (with_reducible repeat (first | refine bN ?_ _ | refine bD ?_ | refine bA ?_ _)); exact BK681.out)) : gb688 ≠ gb681)); clear BK679; clear BK680; clear BK681; clear HB; have BK679 := n0_; have BK680 := n1_; have BK681 := n2_; have HB := n3_; have BK688 := n4_; have GW688 := n5_; have GE688 := n6_; have NB679_688 := n7_; have NB688_679 := n8_; have NB680_688 := n9_; have NB688_680 := n10_; have NB681_688 := n11_; have NB688_681 := n12_; clear n0_ n1_ n2_ n3_ n4_ n5_ n6_ n7_ n8_ n9_ n10_ n11_ n12_; clear hb hbox hg; have hnb21 := NB688_679.out; have hnc21 := NB679_688.out; have hnb22 := NB688_680.out; have hnc22 := NB680_688.out; have hnb23 := NB688_681.out; have hnc23 := NB681_688.out; obtain ⟨hcz24_0, hcz24_1, hcz24_2, hcz24_3, hcz24_4, hcz24_5⟩ := bc6 BK688.out; obtain ⟨hfz24_0, hfz24_1, hfz24_2, hfz24_3, hfz24_4, hfz24_5⟩ := bf6 BK688.out))
    (try simp only [Act.put, List.setIfInBounds_toArray, List.set_cons_zero, List.set_cons_succ])
    go_cut [42] (fun v42 wc => ∃ (kq : Nat) (x42_7 : Bool), v42 = .bool x42_7 ∧ Aside0 (laws_FnLonger.j1 kq l1 x42_7 t667 t668 t669 t670 t671 t672 t673 t674 t675 t676 t677 t678 t682 t683 t684 t685 t686 t687 = some r) ∧ Aside0 (kq ≤ kj2) ∧ Aside0 (wc.heap[gb679]? = some (.cells #[.int .i64 t667, .int .i64 t668, .int .i64 t669, .int .i64 t670, .int .i64 t671] 24 (0, 0))) ∧ Aside0 (wc.heap[gb680]? = some (.cells #[.int .i64 t672, .int .i64 t673] 31 (0, 0))) ∧ Aside0 (wc.heap[gb681]? = some (.cells #[.int .i64 t674, .int .i64 t675, .int .i64 t676, .int .i64 t677, .bool t678] 44 (0, 0))) ∧ Aside0 (wc.heap[gb688]? = some (.cells #[.bool t682, .int .i64 t683, .int .i64 t684, .int .i64 t685, .bool t686, .bool t687] 33 (0, 0))) ∧ Aside0 (Below w.heap.size w wc))
    case first =>
     have H := HC8.out
     clear HC8
     by_cases c25 : t682 = true
     ·subst c25
      have H1 : (if t672 = 3 then (laws_FnLonger.j1 kj2 l1 true t667 t668 t669 t670 t671 t672 t673 t674 t675 t676 t677 t678 true t683 t684 t685 t686 t687) else (laws_FnLonger.j1 kj2 l1 (t683 == 3) t667 t668 t669 t670 t671 t672 t673 t674 t675 t676 t677 t678 true t683 t684 t685 t686 t687)) = some r := by rw [if_pos rfl] at H; exact H
      clear H
      have H := H1
      clear H1
      by_cases c26 : t672 = 3
      ·rw [if_pos c26] at H
       have c26b0 : (t672 == 3) = true := beq_iff_eq.mpr c26
       have c26b1 : (t672 != 3) = false := bne_eq_false_iff_eq.mpr c26
       clear c26
       (first | rw [c26b0] | (simp only [i64_w, i32_w]; rw [c26b0]) | rw [c26b1] | skip)
       have H' := MK H
       clear H
       have hnb27 := NB688_679.out
       have hnc27 := NB679_688.out
       have hnb28 := NB688_680.out
       have hnc28 := NB680_688.out
       have hnb29 := NB688_681.out
       have hnc29 := NB681_688.out
       obtain ⟨hcz30_0, hcz30_1, hcz30_2, hcz30_3, hcz30_4, hcz30_5⟩ := bc6 BK688.out
       obtain ⟨hfz30_0, hfz30_1, hfz30_2, hfz30_3, hfz30_4, hfz30_5⟩ := bf6 BK688.out
       have hnb31 := NB680_679.out
       have hnc31 := NB679_680.out
       have hnb32 := NB680_681.out
       have hnc32 := NB681_680.out
       obtain ⟨hcz33_0, hcz33_1⟩ := bc2 BK680.out
       obtain ⟨hfz33_0, hfz33_1⟩ := bf2 BK680.out
       go_wp2
       go_meet
       case rel => exact ⟨_, (true), (by first | rfl | (simp; done) | (simp [*]; done)), H', ⟨by have := HJ2.out; first | omega | exact Nat.le_refl _⟩, ⟨by (with_reducible repeat (first | refine bN ?_ _ | refine bD ?_ | refine bA ?_ _)); refine blk_far ?_ NB679_688.out _; (with_reducible repeat (first | refine bN ?_ _ | refine bD ?_ | refine bA ?_ _)); refine blk_far ?_ NB679_688.out _; (with_reducible repeat (first | refine bN ?_ _ | refine bD ?_ | refine bA ?_ _)); refine blk_far ?_ NB679_688.out _; (with_reducible repeat (first | refine bN ?_ _ | refine bD ?_ | refine bA ?_ _)); refine blk_far ?_ NB679_688.out _; (with_reducible repeat (first | refine bN ?_ _ | refine bD ?_ | refine bA ?_ _)); refine blk_far ?_ NB679_688.out _; (with_reducible repeat (first | refine bN ?_ _ | refine bD ?_ | refine bA ?_ _)); refine blk_far ?_ NB679_688.out _; (with_reducible repeat (first | refine bN ?_ _ | refine bD ?_ | refine bA ?_ _)); exact BK679.out⟩, ⟨by (with_reducible repeat (first | refine bN ?_ _ | refine bD ?_ | refine bA ?_ _)); refine blk_far ?_ NB680_688.out _; (with_reducible repeat (first | refine bN ?_ _ | refine bD ?_ | refine bA ?_ _)); refine blk_far ?_ NB680_688.out _; (with_reducible repeat (first | refine bN ?_ _ | refine bD ?_ | refine bA ?_ _)); refine blk_far ?_ NB680_688.out _; (with_reducible repeat (first | refine bN ?_ _ | refine bD ?_ | refine bA ?_ _)); refine blk_far ?_ NB680_688.out _; (with_reducible repeat (first | refine bN ?_ _ | refine bD ?_ | refine bA ?_ _)); refine blk_far ?_ NB680_688.out _; (with_reducible repeat (first | refine bN ?_ _ | refine bD ?_ | refine bA ?_ _)); refine blk_far ?_ NB680_688.out _; (with_reducible repeat (first | refine bN ?_ _ | refine bD ?_ | refine bA ?_ _)); exact BK680.out⟩, ⟨by (with_reducible repeat (first | refine bN ?_ _ | refine bD ?_ | refine bA ?_ _)); refine blk_far ?_ NB681_688.out _; (with_reducible repeat (first | refine bN ?_ _ | refine bD ?_ | refine bA ?_ _)); refine blk_far ?_ NB681_688.out _; (with_reducible repeat (first | refine bN ?_ _ | refine bD ?_ | refine bA ?_ _)); refine blk_far ?_ NB681_688.out _; (with_reducible repeat (first | refine bN ?_ _ | refine bD ?_ | refine bA ?_ _)); refine blk_far ?_ NB681_688.out _; (with_reducible repeat (first | refine bN ?_ _ | refine bD ?_ | refine bA ?_ _)); refine blk_far ?_ NB681_688.out _; (with_reducible repeat (first | refine bN ?_ _ | refine bD ?_ | refine bA ?_ _)); refine blk_far ?_ NB681_688.out _; (with_reducible repeat (first | refine bN ?_ _ | refine bD ?_ | refine bA ?_ _)); exact BK681.out⟩, ⟨by (with_reducible repeat (first | refine bN ?_ _ | refine bD ?_ | refine bA ?_ _)); refine blk_put (cs := #[.bool true, .int .i64 t683, .int .i64 t684, .int .i64 t685, .bool t686, .bool false]) ?_ 5 _ rfl; (with_reducible repeat (first | refine bN ?_ _ | refine bD ?_ | refine bA ?_ _)); refine blk_put (cs := #[.bool true, .int .i64 t683, .int .i64 t684, .int .i64 t685, .bool false, .bool false]) ?_ 4 _ rfl; (with_reducible repeat (first | refine bN ?_ _ | refine bD ?_ | refine bA ?_ _)); refine blk_put (cs := #[.bool true, .int .i64 t683, .int .i64 t684, .int .i64 0, .bool false, .bool false]) ?_ 3 _ rfl; (with_reducible repeat (first | refine bN ?_ _ | refine bD ?_ | refine bA ?_ _)); refine blk_put (cs := #[.bool true, .int .i64 t683, .int .i64 0, .int .i64 0, .bool false, .bool false]) ?_ 2 _ rfl; (with_reducible repeat (first | refine bN ?_ _ | refine bD ?_ | refine bA ?_ _)); refine blk_put (cs := #[.bool true, .int .i64 0, .int .i64 0, .int .i64 0, .bool false, .bool false]) ?_ 1 _ rfl; (with_reducible repeat (first | refine bN ?_ _ | refine bD ?_ | refine bA ?_ _)); refine blk_put (cs := #[.bool false, .int .i64 0, .int .i64 0, .int .i64 0, .bool false, .bool false]) ?_ 0 _ rfl; (with_reducible repeat (first | refine bN ?_ _ | refine bD ?_ | refine bA ?_ _)); exact BK688.out⟩, ⟨by repeat (first | (with_reducible first | exact HB.out | apply lA | apply lN | apply lD | refine lS ?_ GE679.out | refine lS ?_ GE680.out | refine lS ?_ GE681.out | refine lS ?_ GE688.out) | exact HB.out)⟩⟩
      ·rw [if_neg c26] at H
       have c26b0 : (t672 == 3) = false := beq_eq_false_iff_ne.mpr c26
       have c26b1 : (t672 != 3) = true := bne_iff_ne.mpr c26
       (first | rw [c26b0] | (simp only [i64_w, i32_w]; rw [c26b0]) | rw [c26b1] | skip)
       have H' := MK H
       clear H
       have hnb34 := NB688_679.out
       have hnc34 := NB679_688.out
       have hnb35 := NB688_680.out
       have hnc35 := NB680_688.out
       have hnb36 := NB688_681.out
       have hnc36 := NB681_688.out
       obtain ⟨hcz37_0, hcz37_1, hcz37_2, hcz37_3, hcz37_4, hcz37_5⟩ := bc6 BK688.out
       obtain ⟨hfz37_0, hfz37_1, hfz37_2, hfz37_3, hfz37_4, hfz37_5⟩ := bf6 BK688.out
       have hnb38 := NB680_679.out
       have hnc38 := NB679_680.out
       have hnb39 := NB680_681.out
       have hnc39 := NB681_680.out
       obtain ⟨hcz40_0, hcz40_1⟩ := bc2 BK680.out
       obtain ⟨hfz40_0, hfz40_1⟩ := bf2 BK680.out
       go_wp2
       go_meet
       case rel => exact ⟨_, ((t683 == 3)), (by first | rfl | (simp; done) | (simp [*]; done)), H', ⟨by have := HJ2.out; first | omega | exact Nat.le_refl _⟩, ⟨by (with_reducible repeat (first | refine bN ?_ _ | refine bD ?_ | refine bA ?_ _)); refine blk_far ?_ NB679_688.out _; (with_reducible repeat (first | refine bN ?_ _ | refine bD ?_ | refine bA ?_ _)); refine blk_far ?_ NB679_688.out _; (with_reducible repeat (first | refine bN ?_ _ | refine bD ?_ | refine bA ?_ _)); refine blk_far ?_ NB679_688.out _; (with_reducible repeat (first | refine bN ?_ _ | refine bD ?_ | refine bA ?_ _)); refine blk_far ?_ NB679_688.out _; (with_reducible repeat (first | refine bN ?_ _ | refine bD ?_ | refine bA ?_ _)); refine blk_far ?_ NB679_688.out _; (with_reducible repeat (first | refine bN ?_ _ | refine bD ?_ | refine bA ?_ _)); refine blk_far ?_ NB679_688.out _; (with_reducible repeat (first | refine bN ?_ _ | refine bD ?_ | refine bA ?_ _)); exact BK679.out⟩, ⟨by (with_reducible repeat (first | refine bN ?_ _ | refine bD ?_ | refine bA ?_ _)); refine blk_far ?_ NB680_688.out _; (with_reducible repeat (first | refine bN ?_ _ | refine bD ?_ | refine bA ?_ _)); refine blk_far ?_ NB680_688.out _; (with_reducible repeat (first | refine bN ?_ _ | refine bD ?_ | refine bA ?_ _)); refine blk_far ?_ NB680_688.out _; (with_reducible repeat (first | refine bN ?_ _ | refine bD ?_ | refine bA ?_ _)); refine blk_far ?_ NB680_688.out _; (with_reducible repeat (first | refine bN ?_ _ | refine bD ?_ | refine bA ?_ _)); refine blk_far ?_ NB680_688.out _; (with_reducible repeat (first | refine bN ?_ _ | refine bD ?_ | refine bA ?_ _)); refine blk_far ?_ NB680_688.out _; (with_reducible repeat (first | refine bN ?_ _ | refine bD ?_ | refine bA ?_ _)); exact BK680.out⟩, ⟨by (with_reducible repeat (first | refine bN ?_ _ | refine bD ?_ | refine bA ?_ _)); refine blk_far ?_ NB681_688.out _; (with_reducible repeat (first | refine bN ?_ _ | refine bD ?_ | refine bA ?_ _)); refine blk_far ?_ NB681_688.out _; (with_reducible repeat (first | refine bN ?_ _ | refine bD ?_ | refine bA ?_ _)); refine blk_far ?_ NB681_688.out _; (with_reducible repeat (first | refine bN ?_ _ | refine bD ?_ | refine bA ?_ _)); refine blk_far ?_ NB681_688.out _; (with_reducible repeat (first | refine bN ?_ _ | refine bD ?_ | refine bA ?_ _)); refine blk_far ?_ NB681_688.out _; (with_reducible repeat (first | refine bN ?_ _ | refine bD ?_ | refine bA ?_ _)); refine blk_far ?_ NB681_688.out _; (with_reducible repeat (first | refine bN ?_ _ | refine bD ?_ | refine bA ?_ _)); exact BK681.out⟩, ⟨by (with_reducible repeat (first | refine bN ?_ _ | refine bD ?_ | refine bA ?_ _)); refine blk_put (cs := #[.bool true, .int .i64 t683, .int .i64 t684, .int .i64 t685, .bool t686, .bool false]) ?_ 5 _ rfl; (with_reducible repeat (first | refine bN ?_ _ | refine bD ?_ | refine bA ?_ _)); refine blk_put (cs := #[.bool true, .int .i64 t683, .int .i64 t684, .int .i64 t685, .bool false, .bool false]) ?_ 4 _ rfl; (with_reducible repeat (first | refine bN ?_ _ | refine bD ?_ | refine bA ?_ _)); refine blk_put (cs := #[.bool true, .int .i64 t683, .int .i64 t684, .int .i64 0, .bool false, .bool false]) ?_ 3 _ rfl; (with_reducible repeat (first | refine bN ?_ _ | refine bD ?_ | refine bA ?_ _)); refine blk_put (cs := #[.bool true, .int .i64 t683, .int .i64 0, .int .i64 0, .bool false, .bool false]) ?_ 2 _ rfl; (with_reducible repeat (first | refine bN ?_ _ | refine bD ?_ | refine bA ?_ _)); refine blk_put (cs := #[.bool true, .int .i64 0, .int .i64 0, .int .i64 0, .bool false, .bool false]) ?_ 1 _ rfl; (with_reducible repeat (first | refine bN ?_ _ | refine bD ?_ | refine bA ?_ _)); refine blk_put (cs := #[.bool false, .int .i64 0, .int .i64 0, .int .i64 0, .bool false, .bool false]) ?_ 0 _ rfl; (with_reducible repeat (first | refine bN ?_ _ | refine bD ?_ | refine bA ?_ _)); exact BK688.out⟩, ⟨by repeat (first | (with_reducible first | exact HB.out | apply lA | apply lN | apply lD | refine lS ?_ GE679.out | refine lS ?_ GE680.out | refine lS ?_ GE681.out | refine lS ?_ GE688.out) | exact HB.out)⟩⟩
     ·replace c25 := Bool.eq_false_iff.mpr c25
      subst c25
      have H1 : (laws_FnLonger.j1 kj2 l1 true t667 t668 t669 t670 t671 t672 t673 t674 t675 t676 t677 t678 false t683 t684 t685 t686 t687) = some r := by rw [if_neg (show ¬ (false = true) by decide)] at H; exact H
      clear H
      have H := H1
      clear H1
      have H' := MK H
      clear H
      have hnb41 := NB688_679.out
      have hnc41 := NB679_688.out
      have hnb42 := NB688_680.out
      have hnc42 := NB680_688.out
      have hnb43 := NB688_681.out
      have hnc43 := NB681_688.out
      obtain ⟨hcz44_0, hcz44_1, hcz44_2, hcz44_3, hcz44_4, hcz44_5⟩ := bc6 BK688.out
      obtain ⟨hfz44_0, hfz44_1, hfz44_2, hfz44_3, hfz44_4, hfz44_5⟩ := bf6 BK688.out
      go_wp2
      go_meet
      case rel => exact ⟨_, (true), (by first | rfl | (simp; done) | (simp [*]; done)), H', ⟨by have := HJ2.out; first | omega | exact Nat.le_refl _⟩, ⟨by (with_reducible repeat (first | refine bN ?_ _ | refine bD ?_ | refine bA ?_ _)); refine blk_far ?_ NB679_688.out _; (with_reducible repeat (first | refine bN ?_ _ | refine bD ?_ | refine bA ?_ _)); refine blk_far ?_ NB679_688.out _; (with_reducible repeat (first | refine bN ?_ _ | refine bD ?_ | refine bA ?_ _)); refine blk_far ?_ NB679_688.out _; (with_reducible repeat (first | refine bN ?_ _ | refine bD ?_ | refine bA ?_ _)); refine blk_far ?_ NB679_688.out _; (with_reducible repeat (first | refine bN ?_ _ | refine bD ?_ | refine bA ?_ _)); refine blk_far ?_ NB679_688.out _; (with_reducible repeat (first | refine bN ?_ _ | refine bD ?_ | refine bA ?_ _)); refine blk_far ?_ NB679_688.out _; (with_reducible repeat (first | refine bN ?_ _ | refine bD ?_ | refine bA ?_ _)); exact BK679.out⟩, ⟨by (with_reducible repeat (first | refine bN ?_ _ | refine bD ?_ | refine bA ?_ _)); refine blk_far ?_ NB680_688.out _; (with_reducible repeat (first | refine bN ?_ _ | refine bD ?_ | refine bA ?_ _)); refine blk_far ?_ NB680_688.out _; (with_reducible repeat (first | refine bN ?_ _ | refine bD ?_ | refine bA ?_ _)); refine blk_far ?_ NB680_688.out _; (with_reducible repeat (first | refine bN ?_ _ | refine bD ?_ | refine bA ?_ _)); refine blk_far ?_ NB680_688.out _; (with_reducible repeat (first | refine bN ?_ _ | refine bD ?_ | refine bA ?_ _)); refine blk_far ?_ NB680_688.out _; (with_reducible repeat (first | refine bN ?_ _ | refine bD ?_ | refine bA ?_ _)); refine blk_far ?_ NB680_688.out _; (with_reducible repeat (first | refine bN ?_ _ | refine bD ?_ | refine bA ?_ _)); exact BK680.out⟩, ⟨by (with_reducible repeat (first | refine bN ?_ _ | refine bD ?_ | refine bA ?_ _)); refine blk_far ?_ NB681_688.out _; (with_reducible repeat (first | refine bN ?_ _ | refine bD ?_ | refine bA ?_ _)); refine blk_far ?_ NB681_688.out _; (with_reducible repeat (first | refine bN ?_ _ | refine bD ?_ | refine bA ?_ _)); refine blk_far ?_ NB681_688.out _; (with_reducible repeat (first | refine bN ?_ _ | refine bD ?_ | refine bA ?_ _)); refine blk_far ?_ NB681_688.out _; (with_reducible repeat (first | refine bN ?_ _ | refine bD ?_ | refine bA ?_ _)); refine blk_far ?_ NB681_688.out _; (with_reducible repeat (first | refine bN ?_ _ | refine bD ?_ | refine bA ?_ _)); refine blk_far ?_ NB681_688.out _; (with_reducible repeat (first | refine bN ?_ _ | refine bD ?_ | refine bA ?_ _)); exact BK681.out⟩, ⟨by (with_reducible repeat (first | refine bN ?_ _ | refine bD ?_ | refine bA ?_ _)); refine blk_put (cs := #[.bool false, .int .i64 t683, .int .i64 t684, .int .i64 t685, .bool t686, .bool false]) ?_ 5 _ rfl; (with_reducible repeat (first | refine bN ?_ _ | refine bD ?_ | refine bA ?_ _)); refine blk_put (cs := #[.bool false, .int .i64 t683, .int .i64 t684, .int .i64 t685, .bool false, .bool false]) ?_ 4 _ rfl; (with_reducible repeat (first | refine bN ?_ _ | refine bD ?_ | refine bA ?_ _)); refine blk_put (cs := #[.bool false, .int .i64 t683, .int .i64 t684, .int .i64 0, .bool false, .bool false]) ?_ 3 _ rfl; (with_reducible repeat (first | refine bN ?_ _ | refine bD ?_ | refine bA ?_ _)); refine blk_put (cs := #[.bool false, .int .i64 t683, .int .i64 0, .int .i64 0, .bool false, .bool false]) ?_ 2 _ rfl; (with_reducible repeat (first | refine bN ?_ _ | refine bD ?_ | refine bA ?_ _)); refine blk_put (cs := #[.bool false, .int .i64 0, .int .i64 0, .int .i64 0, .bool false, .bool false]) ?_ 1 _ rfl; (with_reducible repeat (first | refine bN ?_ _ | refine bD ?_ | refine bA ?_ _)); refine blk_put (cs := #[.bool false, .int .i64 0, .int .i64 0, .int .i64 0, .bool false, .bool false]) ?_ 0 _ rfl; (with_reducible repeat (first | refine bN ?_ _ | refine bD ?_ | refine bA ?_ _)); exact BK688.out⟩, ⟨by repeat (first | (with_reducible first | exact HB.out | apply lA | apply lN | apply lD | refine lS ?_ GE679.out | refine lS ?_ GE680.out | refine lS ?_ GE681.out | refine lS ?_ GE688.out) | exact HB.out)⟩⟩
    case rest =>
     clear HC8
     (try clear c1); (try clear c5); (try clear hcz15_0); (try clear hcz15_1); (try clear hcz15_2); (try clear hcz15_3); (try clear hcz15_4); (try clear hcz17_0); (try clear hcz17_1); (try clear hcz18_0); (try clear hcz18_1); (try clear hcz18_2); (try clear hcz18_3); (try clear hcz18_4); (try clear hcz24_0); (try clear hcz24_1); (try clear hcz24_2); (try clear hcz24_3); (try clear hcz24_4); (try clear hcz24_5); (try clear hfz15_0); (try clear hfz15_1); (try clear hfz15_2); (try clear hfz15_3); (try clear hfz15_4); (try clear hfz17_0); (try clear hfz17_1); (try clear hfz18_0); (try clear hfz18_1); (try clear hfz18_2); (try clear hfz18_3); (try clear hfz18_4); (try clear hfz24_0); (try clear hfz24_1); (try clear hfz24_2); (try clear hfz24_3); (try clear hfz24_4); (try clear hfz24_5)
     obtain ⟨kq, x42_7, rfl, HA, HJ7, BK679, BK680, BK681, BK688, HB⟩ := hcut
     cases kq with
     | zero => exact absurd HA.out (by simp [laws_FnLonger.j1])
     | succ kj7 =>
      have H := HA.out
      clear HA
      simp only [laws_FnLonger.j1] at H
      by_cases c45 : x42_7 = true
      ·subst c45
       have H1 : ((spec_Tick.f kj7 t667 t668 t669 t670 t671 t672 t673 t674 t675 t676 t677 t678).bind fun bt689 => (some (t682 == bt689.1 && ((t683 == bt689.2.1 && (t684 == bt689.2.2.1)) && (t685 == bt689.2.2.2.1 && (t686 == bt689.2.2.2.2.1 && (t687 == bt689.2.2.2.2.2))))))) = some r := by rw [if_pos rfl] at H; exact H
       clear H
       have H := H1
       clear H1
       replace H := Option.bind_eq_some_iff.mp H
       obtain ⟨⟨t689, t690, t691, t692, t693, t694⟩, A460, H⟩ := H
       replace H : (some (t682 == t689 && ((t683 == t690 && (t684 == t691)) && (t685 == t692 && (t686 == t693 && (t687 == t694)))))) = some r := H
       have A46 := MK A460
       clear A460
       obtain rfl := Option.some.inj H
       try go_wp2
       have n0_ := MK (bD BK679.out)
       have n1_ := MK (bD BK680.out)
       have n2_ := MK (bD BK681.out)
       have n3_ := MK (bD BK688.out)
       have n4_ := MK (lD HB.out)
       clear BK679
       clear BK680
       clear BK681
       clear BK688
       clear HB
       have BK679 := n0_
       have BK680 := n1_
       have BK681 := n2_
       have BK688 := n3_
       have HB := n4_
       clear n0_ n1_ n2_ n3_ n4_
       refine start_ (n := 7) (S := fun w' => w'.cell? ⟨gb688, 0, none⟩ = some (.bool t682) ∧ w'.cell? ⟨gb688, 1, none⟩ = some (.int .i64 t683) ∧ w'.cell? ⟨gb688, 2, none⟩ = some (.int .i64 t684) ∧ w'.cell? ⟨gb688, 3, none⟩ = some (.int .i64 t685) ∧ w'.cell? ⟨gb688, 4, none⟩ = some (.bool t686) ∧ w'.cell? ⟨gb688, 5, none⟩ = some (.bool t687) ∧ w'.cell? ⟨gb679, 0, none⟩ = some (.int .i64 t667) ∧ w'.cell? ⟨gb679, 1, none⟩ = some (.int .i64 t668) ∧ w'.cell? ⟨gb679, 2, none⟩ = some (.int .i64 t669) ∧ w'.cell? ⟨gb679, 3, none⟩ = some (.int .i64 t670) ∧ w'.cell? ⟨gb679, 4, none⟩ = some (.int .i64 t671) ∧ w'.cell? ⟨gb680, 0, none⟩ = some (.int .i64 t672) ∧ w'.cell? ⟨gb680, 1, none⟩ = some (.int .i64 t673) ∧ w'.cell? ⟨gb681, 0, none⟩ = some (.int .i64 t674) ∧ w'.cell? ⟨gb681, 1, none⟩ = some (.int .i64 t675) ∧ w'.cell? ⟨gb681, 2, none⟩ = some (.int .i64 t676) ∧ w'.cell? ⟨gb681, 3, none⟩ = some (.int .i64 t677) ∧ w'.cell? ⟨gb681, 4, none⟩ = some (.bool t678)) (ds := []) #[false, false, false, false, false, false, false] (by kernel_rfl) rfl rfl ⟨(blk_cell BK688.out 0).trans rfl, (blk_cell BK688.out 1).trans rfl, (blk_cell BK688.out 2).trans rfl, (blk_cell BK688.out 3).trans rfl, (blk_cell BK688.out 4).trans rfl, (blk_cell BK688.out 5).trans rfl, (blk_cell BK679.out 0).trans rfl, (blk_cell BK679.out 1).trans rfl, (blk_cell BK679.out 2).trans rfl, (blk_cell BK679.out 3).trans rfl, (blk_cell BK679.out 4).trans rfl, (blk_cell BK680.out 0).trans rfl, (blk_cell BK680.out 1).trans rfl, (blk_cell BK681.out 0).trans rfl, (blk_cell BK681.out 1).trans rfl, (blk_cell BK681.out 2).trans rfl, (blk_cell BK681.out 3).trans rfl, (blk_cell BK681.out 4).trans rfl⟩ (fun hHeld => ?_)
       generalize wc.drew = w47 at BK679 BK680 BK681 BK688 HB hHeld ⊢
       refine take_ (i := 0) (N := some 43) (v := ?_) (a' := ?_) #[true, false, false, false, false, false, false] rfl rfl (by kernel_rfl) (fun _ _ _ h => h) (Or.inl ⟨by rfl, ?_⟩) hHeld ?_ ?_
       rotate_left
       ·rintro w' ⟨s0, s1, s2, s3, s4, s5, s6, s7, s8, s9, s10, s11, s12, s13, s14, s15, s16, s17⟩; go_simp; with_reducible rfl
       rotate_left
       ·simp only [Act.put, List.setIfInBounds_toArray, List.set_cons_zero, List.set_cons_succ, i64_w, i32_w]; rfl
       refine take_ (i := 1) (N := some 44) (v := ?_) (a' := ?_) #[true, true, false, false, false, false, false] rfl rfl (by kernel_rfl) (fun _ _ _ h => h) (Or.inl ⟨by rfl, ?_⟩) hHeld ?_ ?_
       rotate_left
       ·rintro w' ⟨s0, s1, s2, s3, s4, s5, s6, s7, s8, s9, s10, s11, s12, s13, s14, s15, s16, s17⟩; go_simp; with_reducible rfl
       rotate_left
       ·simp only [Act.put, List.setIfInBounds_toArray, List.set_cons_zero, List.set_cons_succ, i64_w, i32_w]; rfl
       refine take_ (i := 2) (N := some 45) (v := ?_) (a' := ?_) #[true, true, true, false, false, false, false] rfl rfl (by kernel_rfl) (fun _ _ _ h => h) (Or.inl ⟨by rfl, ?_⟩) hHeld ?_ ?_
       rotate_left
       ·rintro w' ⟨s0, s1, s2, s3, s4, s5, s6, s7, s8, s9, s10, s11, s12, s13, s14, s15, s16, s17⟩; go_simp; with_reducible rfl
       rotate_left
       ·simp only [Act.put, List.setIfInBounds_toArray, List.set_cons_zero, List.set_cons_succ, i64_w, i32_w]; rfl
       refine take_ (i := 3) (N := some 46) (v := ?_) (a' := ?_) #[true, true, true, true, false, false, false] rfl rfl (by kernel_rfl) (fun _ _ _ h => h) (Or.inl ⟨by rfl, ?_⟩) hHeld ?_ ?_
       rotate_left
       ·rintro w' ⟨s0, s1, s2, s3, s4, s5, s6, s7, s8, s9, s10, s11, s12, s13, s14, s15, s16, s17⟩; go_simp; with_reducible rfl
       rotate_left
       ·simp only [Act.put, List.setIfInBounds_toArray, List.set_cons_zero, List.set_cons_succ, i64_w, i32_w]; rfl
       refine one_ (i := 4) (N := some 47) #[true, true, true, true, true, false, false] rfl rfl (by kernel_rfl) (by decide) (fun K hK => ?_)
       refine goes_ Try.func22 (by kernel_rfl) rfl #[.agg #[.int .i64 t667, .int .i64 t668, .int .i64 t669, .int .i64 t670, .int .i64 t671], .agg #[.int .i64 t672, .int .i64 t673], .agg #[.int .i64 t674, .int .i64 t675, .int .i64 t676, .int .i64 t677, .bool t678]] (by rfl) rfl rfl (by (try simp only [List.map_toArray, List.map_cons, List.map_nil]); first | done | rfl | (simp only [List.length_drop, List.length_take]; rfl)) ?_
       with_reducible refine (spec_Tick.calls kj7 t667 t668 t669 t670 t671 t672 t673 t674 t675 t676 t677 t678 t689 t690 t691 t692 t693 t694 _ A46.out).mono ?_
       rintro e w48 ⟨rfl, hb⟩
       refine ⟨_, rfl, ?_⟩
       have n0_ := MK (blk_below (by (with_reducible repeat (first | refine bN ?_ _ | refine bD ?_ | refine bA ?_ _)); exact BK679.out) hb)
       have n1_ := MK (blk_below (by (with_reducible repeat (first | refine bN ?_ _ | refine bD ?_ | refine bA ?_ _)); exact BK680.out) hb)
       have n2_ := MK (blk_below (by (with_reducible repeat (first | refine bN ?_ _ | refine bD ?_ | refine bA ?_ _)); exact BK681.out) hb)
       have n3_ := MK (blk_below (by (with_reducible repeat (first | refine bN ?_ _ | refine bD ?_ | refine bA ?_ _)); exact BK688.out) hb)
       have n4_ := MK (below_step (by repeat (first | (with_reducible first | exact HB.out | apply lA | apply lN | apply lD | refine lS ?_ GE679.out | refine lS ?_ GE680.out | refine lS ?_ GE681.out | refine lS ?_ GE688.out) | exact HB.out)) hb)
       clear BK679
       clear BK680
       clear BK681
       clear BK688
       clear HB
       have BK679 := n0_
       have BK680 := n1_
       have BK681 := n2_
       have BK688 := n3_
       have HB := n4_
       clear n0_ n1_ n2_ n3_ n4_
       (try clear hb)
       (try clear hb2)
       (try clear hk)
       (try clear hi)
       refine hK.out _ _ ⟨(blk_cell BK688.out 0).trans rfl, (blk_cell BK688.out 1).trans rfl, (blk_cell BK688.out 2).trans rfl, (blk_cell BK688.out 3).trans rfl, (blk_cell BK688.out 4).trans rfl, (blk_cell BK688.out 5).trans rfl, (blk_cell BK679.out 0).trans rfl, (blk_cell BK679.out 1).trans rfl, (blk_cell BK679.out 2).trans rfl, (blk_cell BK679.out 3).trans rfl, (blk_cell BK679.out 4).trans rfl, (blk_cell BK680.out 0).trans rfl, (blk_cell BK680.out 1).trans rfl, (blk_cell BK681.out 0).trans rfl, (blk_cell BK681.out 1).trans rfl, (blk_cell BK681.out 2).trans rfl, (blk_cell BK681.out 3).trans rfl, (blk_cell BK681.out 4).trans rfl⟩ (fun hHeld => ?_)
       clear hK K
       refine norm_ (a' := ?_) ?_ ?_
       rotate_left
       ·show Act.put _ (some 47) _ = _; simp only [Act.put, List.setIfInBounds_toArray, List.set_cons_zero, List.set_cons_succ, i64_w, i32_w]; rfl
       refine pure_ (i := 5) (N := some 48) (v := ?_) (a' := ?_) #[true, true, true, true, true, true, false] rfl rfl (by kernel_rfl) (fun _ _ _ h => h) (Or.inl ⟨by rfl, ?_⟩) ?_ ?_
       rotate_left
       ·intro w'; go_simp; with_reducible rfl
       rotate_left
       ·simp only [Act.put, List.setIfInBounds_toArray, List.set_cons_zero, List.set_cons_succ, i64_w, i32_w]; rfl
       refine pure_ (i := 6) (N := some 4) (v := ?_) (a' := ?_) #[true, true, true, true, true, true, true] rfl rfl (by kernel_rfl) (fun _ _ _ h => h) (Or.inl ⟨by rfl, ?_⟩) ?_ ?_
       rotate_left
       ·intro w'; go_simp; with_reducible rfl
       rotate_left
       ·simp only [Act.put, List.setIfInBounds_toArray, List.set_cons_zero, List.set_cons_succ, i64_w, i32_w]; rfl
       refine done_ (by kernel_rfl) ?_
       try go_wp2
       go_ret
       exact ⟨by first | rfl | (simp [errW_none, errW_some] <;> rfl) | (simp [*, errW_none, errW_some] <;> rfl), by repeat (first | (with_reducible first | exact HB.out | apply lA | apply lN | apply lD | refine lS ?_ GE679.out | refine lS ?_ GE680.out | refine lS ?_ GE681.out | refine lS ?_ GE688.out) | exact HB.out)⟩
      ·replace c45 := Bool.eq_false_iff.mpr c45
       subst c45
       have H1 : ((laws_wByte.f l1 0).bind fun t696 => (if (Int.tmod t696 3) = 0 then ((laws_wByte.f l1 1).bind fun t697 => ((impl_Tick.f kj7 t667 t668 t669 t670 t671 t672 t673 t674 t675 (wrap64 (t676 + t697)) t677 t678).bind fun bt698 => (if bt698.1 = true then (some (bt698.2.1 != 3)) else (if (wrap64 (t676 + t697)) > 100000000 then (some true) else (some false))))) else (if (Int.tmod t696 3) = 1 then ((laws_wByte.f l1 1).bind fun t705 => (if (wrap64 (t675 + 1)) = 0 then (none) else ((impl_Tick.f kj7 t667 t668 t669 t670 t671 t672 t673 t674 (wrap64 (t675 - (Int.tmod t705 (wrap64 (t675 + 1))))) t676 t677 t678).bind fun bt706 => (if bt706.1 = true then (some (bt706.2.1 != 3)) else (if t676 > 100000000 then (some true) else (some false)))))) else ((laws_wByte.f l1 1).bind fun t713 => (if (wrap64 (t674 + 1)) = 0 then (none) else ((impl_Tick.f kj7 t667 t668 t669 t670 t671 t672 t673 (wrap64 (t674 - (Int.tmod t713 (wrap64 (t674 + 1))))) t675 t676 t677 t678).bind fun bt714 => (if bt714.1 = true then (some (bt714.2.1 != 3)) else (if t676 > 100000000 then (some true) else (some false))))))))) = some r := by rw [if_neg (show ¬ (false = true) by decide)] at H; exact H
       clear H
       have H := H1
       clear H1
       replace H := Option.bind_eq_some_iff.mp H
       obtain ⟨t696, A490, H⟩ := H
       replace H : (if (Int.tmod t696 3) = 0 then ((laws_wByte.f l1 1).bind fun t697 => ((impl_Tick.f kj7 t667 t668 t669 t670 t671 t672 t673 t674 t675 (wrap64 (t676 + t697)) t677 t678).bind fun bt698 => (if bt698.1 = true then (some (bt698.2.1 != 3)) else (if (wrap64 (t676 + t697)) > 100000000 then (some true) else (some false))))) else (if (Int.tmod t696 3) = 1 then ((laws_wByte.f l1 1).bind fun t705 => (if (wrap64 (t675 + 1)) = 0 then (none) else ((impl_Tick.f kj7 t667 t668 t669 t670 t671 t672 t673 t674 (wrap64 (t675 - (Int.tmod t705 (wrap64 (t675 + 1))))) t676 t677 t678).bind fun bt706 => (if bt706.1 = true then (some (bt706.2.1 != 3)) else (if t676 > 100000000 then (some true) else (some false)))))) else ((laws_wByte.f l1 1).bind fun t713 => (if (wrap64 (t674 + 1)) = 0 then (none) else ((impl_Tick.f kj7 t667 t668 t669 t670 t671 t672 t673 (wrap64 (t674 - (Int.tmod t713 (wrap64 (t674 + 1))))) t675 t676 t677 t678).bind fun bt714 => (if bt714.1 = true then (some (bt714.2.1 != 3)) else (if t676 > 100000000 then (some true) else (some false)))))))) = some r := H
       have A49 := MK A490
       clear A490
       have HC50 := MK H
       clear H
       have hnb51 := NB681_679.out
       have hnc51 := NB679_681.out
       have hnb52 := NB681_680.out
       have hnc52 := NB680_681.out
       have hnb53 := NB681_688.out
       have hnc53 := NB688_681.out
       obtain ⟨hcz54_0, hcz54_1, hcz54_2, hcz54_3, hcz54_4⟩ := bc5 BK681.out
       obtain ⟨hfz54_0, hfz54_1, hfz54_2, hfz54_3, hfz54_4⟩ := bf5 BK681.out
       go_upto_if 63 with (first | ((with_reducible refine gate_dst (N := 9) rfl ?_); (try (refine gate_guard (by rfl) ?_; dsimp only)); refine box_event ?hg (N := 9) ?hd (cs := #[.int .i64 0, .int .i64 0, .int .i64 0, .int .i64 0, .bool false]) (t := 44) ?hr ?_; (case hd => rfl); (case hg => rfl); (case hr => first | (go_simp; done) | (go_simp; rfl)); intro gb695 hg w55 hbox hb; have n0_ := MK (blk_below (by (with_reducible repeat (first | refine bN ?_ _ | refine bD ?_ | refine bA ?_ _)); exact BK679.out) hb); have n1_ := MK (blk_below (by (with_reducible repeat (first | refine bN ?_ _ | refine bD ?_ | refine bA ?_ _)); exact BK680.out) hb); have n2_ := MK (blk_below (by (with_reducible repeat (first | refine bN ?_ _ | refine bD ?_ | refine bA ?_ _)); exact BK681.out) hb); have n3_ := MK (blk_below (by (with_reducible repeat (first | refine bN ?_ _ | refine bD ?_ | refine bA ?_ _)); exact BK688.out) hb); have n4_ := MK (below_step (by repeat (first | (with_reducible first | exact HB.out | apply lA | apply lN | apply lD | refine lS ?_ GE679.out | refine lS ?_ GE680.out | refine lS ?_ GE681.out | refine lS ?_ GE688.out) | exact HB.out)) hb); have n5_ := MK (hbox); have n6_ := MK ((by rw [hg]; exact (below_size (by repeat (first | (with_reducible first | exact HB.out | apply lA | apply lN | apply lD | refine lS ?_ GE679.out | refine lS ?_ GE680.out | refine lS ?_ GE681.out | refine lS ?_ GE688.out) | exact HB.out))) : w.heap.size ≤ gb695)); have n7_ := MK ((by rw [hg]; exact (below_size (by repeat (first | (with_reducible first | exact HB.out | apply lA | apply lN | apply lD | refine lS ?_ GE679.out | refine lS ?_ GE680.out | refine lS ?_ GE681.out | refine lS ?_ GE688.out) | exact HB.out))) : w.heap.size ≤ gb695)); have n8_ := MK ((by rw [hg]; exact Nat.ne_of_lt (blk_lt (by (with_reducible repeat (first | refine bN ?_ _ | refine bD ?_ | refine bA ?_ _)); exact BK679.out)) : gb679 ≠ gb695)); have n9_ := MK ((by rw [hg]; exact Nat.ne_of_gt (blk_lt (by (with_reducible repeat (first | refine bN ?_ _ | refine bD ?_ | refine bA ?_ _)); exact BK679.out)) : gb695 ≠ gb679)); have n10_ := MK ((by rw [hg]; exact Nat.ne_of_lt (blk_lt (by (with_reducible repeat (first | refine bN ?_ _ | refine bD ?_ | refine bA ?_ _)); exact BK680.out)) : gb680 ≠ gb695)); have n11_ := MK ((by rw [hg]; exact Nat.ne_of_gt (blk_lt (by (with_reducible repeat (first | refine bN ?_ _ | refine bD ?_ | refine bA ?_ _)); exact BK680.out)) : gb695 ≠ gb680)); have n12_ := MK ((by rw [hg]; exact Nat.ne_of_lt (blk_lt (by (with_reducible repeat (first | refine bN ?_ _ | refine bD ?_ | refine bA ?_ _)); exact BK681.out)) : gb681 ≠ gb695)); have n13_ := MK ((by rw [hg]; exact Nat.ne_of_gt (blk_lt (by (with_reducible repeat (first | refine bN ?_ _ | refine bD ?_ | refine bA ?_ _)); exact BK681.out)) : gb695 ≠ gb681)); have n14_ := MK ((by rw [hg]; exact Nat.ne_of_lt (blk_lt (by (with_reducible repeat (first | refine bN ?_ _ | refine bD ?_ | refine bA ?_ _)); exact BK688.out)) : gb688 ≠ gb695)); have n15_ := MK ((by rw [hg]; exact Nat.ne_of_gt (blk_lt (by (with_reducible repeat (first | refine bN ?_ _ | refine bD ?_ | refine bA ?_ _)); exact BK688.out)) : gb695 ≠ gb688)); clear BK679; clear BK680; clear BK681; clear BK688; clear HB; have BK679 := n0_; have BK680 := n1_; have BK681 := n2_; have BK688 := n3_; have HB := n4_; have BK695 := n5_; have GW695 := n6_; have GE695 := n7_; have NB679_695 := n8_; have NB695_679 := n9_; have NB680_695 := n10_; have NB695_680 := n11_; have NB681_695 := n12_; have NB695_681 := n13_; have NB688_695 := n14_; have NB695_688 := n15_; clear n0_ n1_ n2_ n3_ n4_ n5_ n6_ n7_ n8_ n9_ n10_ n11_ n12_ n13_ n14_ n15_; clear hb hbox hg; have hnb56 := NB695_679.out; have hnc56 := NB679_695.out; have hnb57 := NB695_680.out; have hnc57 := NB680_695.out; have hnb58 := NB695_681.out; have hnc58 := NB681_695.out; have hnb59 := NB695_688.out; have hnc59 := NB688_695.out; obtain ⟨hcz60_0, hcz60_1, hcz60_2, hcz60_3, hcz60_4⟩ := bc5 BK695.out; obtain ⟨hfz60_0, hfz60_1, hfz60_2, hfz60_3, hfz60_4⟩ := bf5 BK695.out) | ((with_reducible refine gate_callee (f := 11) rfl ?_); refine goesL_ (some 51) rfl rfl Try.func11 (by kernel_rfl) rfl #[.slice A1 l1.length c1, .int .i64 0] rfl (by (try simp only [List.map_toArray, List.map_cons, List.map_nil]); first | done | rfl | (simp only [List.length_drop, List.length_take]; rfl)) ?_; (with_reducible refine (laws_wByte.calls _ _ l1 0 t696 _ ?side1 ?side2 A49.out).mono ?_); (case side1 => exact Kd.C_below HR1.out (by repeat (first | (with_reducible first | exact HB.out | apply lA | apply lN | apply lD | refine lS ?_ GE679.out | refine lS ?_ GE680.out | refine lS ?_ GE681.out | refine lS ?_ GE688.out | refine lS ?_ GE695.out) | exact HB.out))); (case side2 => exact HC1.out); rintro e w' ⟨rfl, ⟨nd, rfl⟩⟩; refine ⟨_, rfl, ?_⟩))
       (try simp only [Act.put, List.setIfInBounds_toArray, List.set_cons_zero, List.set_cons_succ])
       have H := HC50.out
       clear HC50
       by_cases c61 : (Int.tmod t696 3) = 0
       ·rw [if_pos c61] at H
        have c61b0 : ((Int.tmod t696 3) == 0) = true := beq_iff_eq.mpr c61
        have c61b1 : ((Int.tmod t696 3) != 0) = false := bne_eq_false_iff_eq.mpr c61
        clear c61
        (first | rw [c61b0] | (simp only [i64_w, i32_w]; rw [c61b0]) | rw [c61b1] | skip)
        replace H := Option.bind_eq_some_iff.mp H
        obtain ⟨t697, A620, H⟩ := H
        replace H : ((impl_Tick.f kj7 t667 t668 t669 t670 t671 t672 t673 t674 t675 (wrap64 (t676 + t697)) t677 t678).bind fun bt698 => (if bt698.1 = true then (some (bt698.2.1 != 3)) else (if (wrap64 (t676 + t697)) > 100000000 then (some true) else (some false)))) = some r := H
        have A62 := MK A620
        clear A620
        replace H := Option.bind_eq_some_iff.mp H
        obtain ⟨⟨t698, t699, t700, t701, t702, t703⟩, A630, H⟩ := H
        replace H : (if t698 = true then (some (t699 != 3)) else (if (wrap64 (t676 + t697)) > 100000000 then (some true) else (some false))) = some r := H
        have A63 := MK A630
        clear A630
        by_cases c64 : t698 = true
        ·subst c64
         have H1 : (some (t699 != 3)) = some r := by rw [if_pos rfl] at H; exact H
         clear H
         have H := H1
         clear H1
         obtain rfl := Option.some.inj H
         try go_wp2
         have n0_ : Aside0 ((((((w55.setCell ⟨gb695, 0, none⟩ (.int .i64 t674)).setCell ⟨gb695, 1, none⟩ (.int .i64 t675)).setCell ⟨gb695, 2, none⟩ (.int .i64 t676)).setCell ⟨gb695, 3, none⟩ (.int .i64 t677)).setCell ⟨gb695, 4, none⟩ (.bool t678)).heap[gb679]? = some (.cells #[.int .i64 t667, .int .i64 t668, .int .i64 t669, .int .i64 t670, .int .i64 t671] 24 (0, 0))) := ⟨by refine blk_far ?_ NB679_695.out _; refine blk_far ?_ NB679_695.out _; refine blk_far ?_ NB679_695.out _; refine blk_far ?_ NB679_695.out _; refine blk_far ?_ NB679_695.out _; (with_reducible repeat (first | refine bN ?_ _ | refine bD ?_ | refine bA ?_ _)); exact BK679.out⟩
         have n1_ : Aside0 ((((((w55.setCell ⟨gb695, 0, none⟩ (.int .i64 t674)).setCell ⟨gb695, 1, none⟩ (.int .i64 t675)).setCell ⟨gb695, 2, none⟩ (.int .i64 t676)).setCell ⟨gb695, 3, none⟩ (.int .i64 t677)).setCell ⟨gb695, 4, none⟩ (.bool t678)).heap[gb680]? = some (.cells #[.int .i64 t672, .int .i64 t673] 31 (0, 0))) := ⟨by refine blk_far ?_ NB680_695.out _; refine blk_far ?_ NB680_695.out _; refine blk_far ?_ NB680_695.out _; refine blk_far ?_ NB680_695.out _; refine blk_far ?_ NB680_695.out _; (with_reducible repeat (first | refine bN ?_ _ | refine bD ?_ | refine bA ?_ _)); exact BK680.out⟩
         have n2_ : Aside0 ((((((w55.setCell ⟨gb695, 0, none⟩ (.int .i64 t674)).setCell ⟨gb695, 1, none⟩ (.int .i64 t675)).setCell ⟨gb695, 2, none⟩ (.int .i64 t676)).setCell ⟨gb695, 3, none⟩ (.int .i64 t677)).setCell ⟨gb695, 4, none⟩ (.bool t678)).heap[gb681]? = some (.cells #[.int .i64 t674, .int .i64 t675, .int .i64 t676, .int .i64 t677, .bool t678] 44 (0, 0))) := ⟨by refine blk_far ?_ NB681_695.out _; refine blk_far ?_ NB681_695.out _; refine blk_far ?_ NB681_695.out _; refine blk_far ?_ NB681_695.out _; refine blk_far ?_ NB681_695.out _; (with_reducible repeat (first | refine bN ?_ _ | refine bD ?_ | refine bA ?_ _)); exact BK681.out⟩
         have n3_ : Aside0 ((((((w55.setCell ⟨gb695, 0, none⟩ (.int .i64 t674)).setCell ⟨gb695, 1, none⟩ (.int .i64 t675)).setCell ⟨gb695, 2, none⟩ (.int .i64 t676)).setCell ⟨gb695, 3, none⟩ (.int .i64 t677)).setCell ⟨gb695, 4, none⟩ (.bool t678)).heap[gb688]? = some (.cells #[.bool t682, .int .i64 t683, .int .i64 t684, .int .i64 t685, .bool t686, .bool t687] 33 (0, 0))) := ⟨by refine blk_far ?_ NB688_695.out _; refine blk_far ?_ NB688_695.out _; refine blk_far ?_ NB688_695.out _; refine blk_far ?_ NB688_695.out _; refine blk_far ?_ NB688_695.out _; (with_reducible repeat (first | refine bN ?_ _ | refine bD ?_ | refine bA ?_ _)); exact BK688.out⟩
         have n4_ : Aside0 ((((((w55.setCell ⟨gb695, 0, none⟩ (.int .i64 t674)).setCell ⟨gb695, 1, none⟩ (.int .i64 t675)).setCell ⟨gb695, 2, none⟩ (.int .i64 t676)).setCell ⟨gb695, 3, none⟩ (.int .i64 t677)).setCell ⟨gb695, 4, none⟩ (.bool t678)).heap[gb695]? = some (.cells #[.int .i64 t674, .int .i64 t675, .int .i64 t676, .int .i64 t677, .bool t678] 44 (0, 0))) := ⟨by refine blk_put (cs := #[.int .i64 t674, .int .i64 t675, .int .i64 t676, .int .i64 t677, .bool false]) ?_ 4 _ rfl; refine blk_put (cs := #[.int .i64 t674, .int .i64 t675, .int .i64 t676, .int .i64 0, .bool false]) ?_ 3 _ rfl; refine blk_put (cs := #[.int .i64 t674, .int .i64 t675, .int .i64 0, .int .i64 0, .bool false]) ?_ 2 _ rfl; refine blk_put (cs := #[.int .i64 t674, .int .i64 0, .int .i64 0, .int .i64 0, .bool false]) ?_ 1 _ rfl; refine blk_put (cs := #[.int .i64 0, .int .i64 0, .int .i64 0, .int .i64 0, .bool false]) ?_ 0 _ rfl; (with_reducible repeat (first | refine bN ?_ _ | refine bD ?_ | refine bA ?_ _)); exact BK695.out⟩
         have n5_ : Aside0 (Below w.heap.size w (((((w55.setCell ⟨gb695, 0, none⟩ (.int .i64 t674)).setCell ⟨gb695, 1, none⟩ (.int .i64 t675)).setCell ⟨gb695, 2, none⟩ (.int .i64 t676)).setCell ⟨gb695, 3, none⟩ (.int .i64 t677)).setCell ⟨gb695, 4, none⟩ (.bool t678))) := ⟨by repeat (first | (with_reducible first | exact HB.out | apply lA | apply lN | apply lD | refine lS ?_ GE679.out | refine lS ?_ GE680.out | refine lS ?_ GE681.out | refine lS ?_ GE688.out | refine lS ?_ GE695.out) | exact HB.out)⟩
         (try clear BK679)
         (try clear BK680)
         (try clear BK681)
         (try clear BK688)
         (try clear BK695)
         (try clear HB)
         generalize (((((w55.setCell ⟨gb695, 0, none⟩ (.int .i64 t674)).setCell ⟨gb695, 1, none⟩ (.int .i64 t675)).setCell ⟨gb695, 2, none⟩ (.int .i64 t676)).setCell ⟨gb695, 3, none⟩ (.int .i64 t677)).setCell ⟨gb695, 4, none⟩ (.bool t678)) = w65 at n0_ n1_ n2_ n3_ n4_ n5_ ⊢
         have n0_ := MK (bN n0_.out nd)
         have n1_ := MK (bN n1_.out nd)
         have n2_ := MK (bN n2_.out nd)
         have n3_ := MK (bN n3_.out nd)
         have n4_ := MK (bN n4_.out nd)
         have n5_ := MK (lN n5_.out nd)
         generalize w65.drewN nd = w65 at n0_ n1_ n2_ n3_ n4_ n5_ ⊢
         have BK679 := n0_
         have BK680 := n1_
         have BK681 := n2_
         have BK688 := n3_
         have BK695 := n4_
         have HB := n5_
         clear n0_ n1_ n2_ n3_ n4_ n5_
         have n0_ := MK (bD BK679.out)
         have n1_ := MK (bD BK680.out)
         have n2_ := MK (bD BK681.out)
         have n3_ := MK (bD BK688.out)
         have n4_ := MK (bD BK695.out)
         have n5_ := MK (lD HB.out)
         clear BK679
         clear BK680
         clear BK681
         clear BK688
         clear BK695
         clear HB
         have BK679 := n0_
         have BK680 := n1_
         have BK681 := n2_
         have BK688 := n3_
         have BK695 := n4_
         have HB := n5_
         clear n0_ n1_ n2_ n3_ n4_ n5_
         refine start_ (n := 7) (S := fun w' => w'.cell? ⟨gb695, 0, none⟩ = some (.int .i64 t674) ∧ w'.cell? ⟨gb695, 1, none⟩ = some (.int .i64 t675) ∧ w'.cell? ⟨gb695, 2, none⟩ = some (.int .i64 t676) ∧ w'.cell? ⟨gb695, 3, none⟩ = some (.int .i64 t677) ∧ w'.cell? ⟨gb695, 4, none⟩ = some (.bool t678)) (ds := [6]) #[false, false, false, false, false, false, false] (by kernel_rfl) rfl rfl ⟨(blk_cell BK695.out 0).trans rfl, (blk_cell BK695.out 1).trans rfl, (blk_cell BK695.out 2).trans rfl, (blk_cell BK695.out 3).trans rfl, (blk_cell BK695.out 4).trans rfl⟩ (fun hHeld => ?_)
         generalize w65.drew = w66 at BK679 BK680 BK681 BK688 BK695 HB hHeld ⊢
         refine pure_ (i := 0) (N := some 65) (v := ?_) (a' := ?_) #[true, false, false, false, false, false, false] rfl rfl (by kernel_rfl) (fun _ _ _ h => h) (Or.inl ⟨by rfl, ?_⟩) ?_ ?_
         rotate_left
         ·intro w'; go_simp; with_reducible rfl
         rotate_left
         ·simp only [Act.put, List.setIfInBounds_toArray, List.set_cons_zero, List.set_cons_succ, i64_w, i32_w]; rfl
         refine pure_ (i := 2) (N := some 67) (v := ?_) (a' := ?_) #[true, false, true, false, false, false, false] rfl rfl (by kernel_rfl) (fun _ _ _ h => h) (Or.inl ⟨by rfl, ?_⟩) ?_ ?_
         rotate_left
         ·intro w'; go_simp; with_reducible rfl
         rotate_left
         ·simp only [Act.put, List.setIfInBounds_toArray, List.set_cons_zero, List.set_cons_succ, i64_w, i32_w]; rfl
         refine take_ (i := 1) (N := some 66) (v := ?_) (a' := ?_) #[true, true, true, false, false, false, false] rfl rfl (by kernel_rfl) (fun _ _ _ h => h) (Or.inl ⟨by rfl, ?_⟩) hHeld ?_ ?_
         rotate_left
         ·rintro w' ⟨s0, s1, s2, s3, s4⟩; go_simp; with_reducible rfl
         rotate_left
         ·simp only [Act.put, List.setIfInBounds_toArray, List.set_cons_zero, List.set_cons_succ, i64_w, i32_w]; rfl
         refine one_ (i := 3) (N := some 68) #[true, true, true, true, false, false, false] rfl rfl (by kernel_rfl) (by decide) (fun K hK => ?_)
         refine goes_ Try.func11 (by kernel_rfl) rfl #[.slice A1 l1.length c1, .int .i64 1] (by rfl) rfl rfl (by (try simp only [List.map_toArray, List.map_cons, List.map_nil]); first | done | rfl | (simp only [List.length_drop, List.length_take]; rfl)) ?_
         with_reducible refine (laws_wByte.calls _ _ l1 1 t697 _ ?side1 ?side2 A62.out).mono ?_
         (case side1 => repeat (first | exact (Kd.C_below HR1.out HB.out) | (with_reducible refine Kd.C_alloc ?_ _) | (with_reducible refine Kd.C_drewN ?_ _) | (with_reducible refine Kd.C_drew ?_)))
         (case side2 => exact HC1.out)
         rintro e w' ⟨rfl, ⟨nd, rfl⟩⟩
         refine ⟨_, rfl, ?_⟩
         refine hK.out _ _ ⟨(blk_cell BK695.out 0).trans rfl, (blk_cell BK695.out 1).trans rfl, (blk_cell BK695.out 2).trans rfl, (blk_cell BK695.out 3).trans rfl, (blk_cell BK695.out 4).trans rfl⟩ (fun hHeld => ?_)
         clear hK K
         refine norm_ (a' := ?_) ?_ ?_
         rotate_left
         ·show Act.put _ (some 68) _ = _; simp only [Act.put, List.setIfInBounds_toArray, List.set_cons_zero, List.set_cons_succ, i64_w, i32_w]; rfl
         refine pure_ (i := 4) (N := some 69) (v := ?_) (a' := ?_) #[true, true, true, true, true, false, false] rfl rfl (by kernel_rfl) (fun _ _ _ h => h) (Or.inl ⟨by rfl, ?_⟩) ?_ ?_
         rotate_left
         ·intro w'; go_simp; with_reducible rfl
         rotate_left
         ·simp only [Act.put, List.setIfInBounds_toArray, List.set_cons_zero, List.set_cons_succ, i64_w, i32_w]; rfl
         refine pure_ (i := 5) (N := some 70) (v := ?_) (a' := ?_) #[true, true, true, true, true, true, false] rfl rfl (by kernel_rfl) (fun _ _ _ h => h) (Or.inl ⟨by rfl, ?_⟩) ?_ ?_
         rotate_left
         ·intro w'; go_simp; with_reducible rfl
         rotate_left
         ·simp only [Act.put, List.setIfInBounds_toArray, List.set_cons_zero, List.set_cons_succ, i64_w, i32_w]; rfl
         refine last_ (i := 6) (N := none) #[true, true, true, true, true, true, true] rfl rfl (by kernel_rfl) (by decide) (fun K hK => ?_)
         have hs67 : w66.cell? ⟨gb695, 2, none⟩ = some (.int .i64 t676) := (blk_cell BK695.out 2).trans rfl
         have hfs67 := blk_frozen BK695.out 2
         have hns67_0 := NB679_695.out
         have hns67_1 := NB680_695.out
         have hns67_2 := NB681_695.out
         have hns67_3 := NB688_695.out
         have hms67_0 := NB695_679.out
         have hms67_1 := NB695_680.out
         have hms67_2 := NB695_681.out
         have hms67_3 := NB695_688.out
         refine skip_ (w1 := ?_) (by rfl) rfl ?_ ?_
         rotate_left
         ·go_simp
          rfl
         refine hK.out _ _ ?_
         clear hK K
         refine done_ (by kernel_rfl) ?_
         have hnb68 := NB679_680.out
         have hnc68 := NB680_679.out
         have hnb69 := NB679_681.out
         have hnc69 := NB681_679.out
         have hnb70 := NB679_688.out
         have hnc70 := NB688_679.out
         have hnb71 := NB679_695.out
         have hnc71 := NB695_679.out
         obtain ⟨hcz72_0, hcz72_1, hcz72_2, hcz72_3, hcz72_4⟩ := bc5 BK679.out
         obtain ⟨hfz72_0, hfz72_1, hfz72_2, hfz72_3, hfz72_4⟩ := bf5 BK679.out
         have hnb73 := NB680_681.out
         have hnc73 := NB681_680.out
         have hnb74 := NB680_688.out
         have hnc74 := NB688_680.out
         have hnb75 := NB680_695.out
         have hnc75 := NB695_680.out
         obtain ⟨hcz76_0, hcz76_1⟩ := bc2 BK680.out
         obtain ⟨hfz76_0, hfz76_1⟩ := bf2 BK680.out
         have hnb77 := NB695_681.out
         have hnc77 := NB681_695.out
         have hnb78 := NB695_688.out
         have hnc78 := NB688_695.out
         obtain ⟨hcz79_0, hcz79_1, hcz79_2, hcz79_3, hcz79_4⟩ := bc5 BK695.out
         obtain ⟨hfz79_0, hfz79_1, hfz79_2, hfz79_3, hfz79_4⟩ := bf5 BK695.out
         try go_wp2_with (first | ((with_reducible refine gate_callee (f := 21) rfl ?_); refine goesL_ (some 86) rfl rfl Try.func21 (by kernel_rfl) rfl #[.agg #[.int .i64 t667, .int .i64 t668, .int .i64 t669, .int .i64 t670, .int .i64 t671], .agg #[.int .i64 t672, .int .i64 t673], .agg #[.int .i64 t674, .int .i64 t675, .int .i64 (wrap64 (t676 + t697)), .int .i64 t677, .bool t678]] rfl (by (try simp only [List.map_toArray, List.map_cons, List.map_nil]); first | done | rfl | (simp only [List.length_drop, List.length_take]; rfl)) ?_; (with_reducible refine (impl_Tick.calls kj7 t667 t668 t669 t670 t671 t672 t673 t674 t675 (wrap64 (t676 + t697)) t677 t678 true t699 t700 t701 t702 t703 _ A63.out).mono ?_); rintro e w80 ⟨rfl, hb⟩; refine ⟨_, rfl, ?_⟩; have n0_ := MK (blk_below (g := gb679) (o := .cells #[.int .i64 t667, .int .i64 t668, .int .i64 t669, .int .i64 t670, .int .i64 t671] 24 (0, 0)) (by (with_reducible repeat (first | refine bN ?_ _ | refine bD ?_ | refine bA ?_ _)); refine blk_far ?_ NB679_695.out _; (with_reducible repeat (first | refine bN ?_ _ | refine bD ?_ | refine bA ?_ _)); exact BK679.out) hb); have n1_ := MK (blk_below (g := gb680) (o := .cells #[.int .i64 t672, .int .i64 t673] 31 (0, 0)) (by (with_reducible repeat (first | refine bN ?_ _ | refine bD ?_ | refine bA ?_ _)); refine blk_far ?_ NB680_695.out _; (with_reducible repeat (first | refine bN ?_ _ | refine bD ?_ | refine bA ?_ _)); exact BK680.out) hb); have n2_ := MK (blk_below (g := gb681) (o := .cells #[.int .i64 t674, .int .i64 t675, .int .i64 t676, .int .i64 t677, .bool t678] 44 (0, 0)) (by (with_reducible repeat (first | refine bN ?_ _ | refine bD ?_ | refine bA ?_ _)); refine blk_far ?_ NB681_695.out _; (with_reducible repeat (first | refine bN ?_ _ | refine bD ?_ | refine bA ?_ _)); exact BK681.out) hb); have n3_ := MK (blk_below (g := gb688) (o := .cells #[.bool t682, .int .i64 t683, .int .i64 t684, .int .i64 t685, .bool t686, .bool t687] 33 (0, 0)) (by (with_reducible repeat (first | refine bN ?_ _ | refine bD ?_ | refine bA ?_ _)); refine blk_far ?_ NB688_695.out _; (with_reducible repeat (first | refine bN ?_ _ | refine bD ?_ | refine bA ?_ _)); exact BK688.out) hb); have n4_ := MK (blk_below (g := gb695) (o := .cells #[.int .i64 t674, .int .i64 t675, .int .i64 (wrap64 (t676 + t697)), .int .i64 t677, .bool t678] 44 (0, 0)) (by (with_reducible repeat (first | refine bN ?_ _ | refine bD ?_ | refine bA ?_ _)); refine blk_put (cs := #[.int .i64 t674, .int .i64 t675, .int .i64 t676, .int .i64 t677, .bool t678]) ?_ 2 _ rfl; (with_reducible repeat (first | refine bN ?_ _ | refine bD ?_ | refine bA ?_ _)); exact BK695.out) hb); have n5_ := MK (below_step (by repeat (first | (with_reducible first | exact HB.out | apply lA | apply lN | apply lD | refine lS ?_ GE679.out | refine lS ?_ GE680.out | refine lS ?_ GE681.out | refine lS ?_ GE688.out | refine lS ?_ GE695.out) | exact HB.out)) hb); clear BK679; clear BK680; clear BK681; clear BK688; clear BK695; clear HB; have BK679 := n0_; have BK680 := n1_; have BK681 := n2_; have BK688 := n3_; have BK695 := n4_; have HB := n5_; clear n0_ n1_ n2_ n3_ n4_ n5_; (try clear hb); (try clear hb2); (try clear hk); (try clear hi)) | ((with_reducible refine gate_dst (N := 10) rfl ?_); (try (refine gate_guard (by rfl) ?_; dsimp only)); refine box_event ?hg (N := 10) ?hd (cs := #[.bool false, .int .i64 0, .int .i64 0, .int .i64 0, .bool false, .bool false]) (t := 33) ?hr ?_; (case hd => rfl); (case hg => rfl); (case hr => first | (go_simp; done) | (go_simp; rfl)); intro gb704 hg w81 hbox hb; have n0_ := MK (blk_below (by (with_reducible repeat (first | refine bN ?_ _ | refine bD ?_ | refine bA ?_ _)); exact BK679.out) hb); have n1_ := MK (blk_below (by (with_reducible repeat (first | refine bN ?_ _ | refine bD ?_ | refine bA ?_ _)); exact BK680.out) hb); have n2_ := MK (blk_below (by (with_reducible repeat (first | refine bN ?_ _ | refine bD ?_ | refine bA ?_ _)); exact BK681.out) hb); have n3_ := MK (blk_below (by (with_reducible repeat (first | refine bN ?_ _ | refine bD ?_ | refine bA ?_ _)); exact BK688.out) hb); have n4_ := MK (blk_below (by (with_reducible repeat (first | refine bN ?_ _ | refine bD ?_ | refine bA ?_ _)); exact BK695.out) hb); have n5_ := MK (below_step (by repeat (first | (with_reducible first | exact HB.out | apply lA | apply lN | apply lD | refine lS ?_ GE679.out | refine lS ?_ GE680.out | refine lS ?_ GE681.out | refine lS ?_ GE688.out | refine lS ?_ GE695.out) | exact HB.out)) hb); have n6_ := MK (hbox); have n7_ := MK ((by rw [hg]; exact (below_size (by repeat (first | (with_reducible first | exact HB.out | apply lA | apply lN | apply lD | refine lS ?_ GE679.out | refine lS ?_ GE680.out | refine lS ?_ GE681.out | refine lS ?_ GE688.out | refine lS ?_ GE695.out) | exact HB.out))) : w.heap.size ≤ gb704)); have n8_ := MK ((by rw [hg]; exact (below_size (by repeat (first | (with_reducible first | exact HB.out | apply lA | apply lN | apply lD | refine lS ?_ GE679.out | refine lS ?_ GE680.out | refine lS ?_ GE681.out | refine lS ?_ GE688.out | refine lS ?_ GE695.out) | exact HB.out))) : w.heap.size ≤ gb704)); have n9_ := MK ((by rw [hg]; exact Nat.ne_of_lt (blk_lt (by (with_reducible repeat (first | refine bN ?_ _ | refine bD ?_ | refine bA ?_ _)); exact BK679.out)) : gb679 ≠ gb704)); have n10_ := MK ((by rw [hg]; exact Nat.ne_of_gt (blk_lt (by (with_reducible repeat (first | refine bN ?_ _ | refine bD ?_ | refine bA ?_ _)); exact BK679.out)) : gb704 ≠ gb679)); have n11_ := MK ((by rw [hg]; exact Nat.ne_of_lt (blk_lt (by (with_reducible repeat (first | refine bN ?_ _ | refine bD ?_ | refine bA ?_ _)); exact BK680.out)) : gb680 ≠ gb704)); have n12_ := MK ((by rw [hg]; exact Nat.ne_of_gt (blk_lt (by (with_reducible repeat (first | refine bN ?_ _ | refine bD ?_ | refine bA ?_ _)); exact BK680.out)) : gb704 ≠ gb680)); have n13_ := MK ((by rw [hg]; exact Nat.ne_of_lt (blk_lt (by (with_reducible repeat (first | refine bN ?_ _ | refine bD ?_ | refine bA ?_ _)); exact BK681.out)) : gb681 ≠ gb704)); have n14_ := MK ((by rw [hg]; exact Nat.ne_of_gt (blk_lt (by (with_reducible repeat (first | refine bN ?_ _ | refine bD ?_ | refine bA ?_ _)); exact BK681.out)) : gb704 ≠ gb681)); have n15_ := MK ((by rw [hg]; exact Nat.ne_of_lt (blk_lt (by (with_reducible repeat (first | refine bN ?_ _ | refine bD ?_ | refine bA ?_ _)); exact BK688.out)) : gb688 ≠ gb704)); have n16_ := MK ((by rw [hg]; exact Nat.ne_of_gt (blk_lt (by (with_reducible repeat (first | refine bN ?_ _ | refine bD ?_ | refine bA ?_ _)); exact BK688.out)) : gb704 ≠ gb688)); have n17_ := MK ((by rw [hg]; exact Nat.ne_of_lt (blk_lt (by (with_reducible repeat (first | refine bN ?_ _ | refine bD ?_ | refine bA ?_ _)); exact BK695.out)) : gb695 ≠ gb704)); have n18_ := MK ((by rw [hg]; exact Nat.ne_of_gt (blk_lt (by (with_reducible repeat (first | refine bN ?_ _ | refine bD ?_ | refine bA ?_ _)); exact BK695.out)) : gb704 ≠ gb695)); clear BK679; clear BK680; clear BK681; clear BK688; clear BK695; clear HB; have BK679 := n0_; have BK680 := n1_; have BK681 := n2_; have BK688 := n3_; have BK695 := n4_; have HB := n5_; have BK704 := n6_; have GW704 := n7_; have GE704 := n8_; have NB679_704 := n9_; have NB704_679 := n10_; have NB680_704 := n11_; have NB704_680 := n12_; have NB681_704 := n13_; have NB704_681 := n14_; have NB688_704 := n15_; have NB704_688 := n16_; have NB695_704 := n17_; have NB704_695 := n18_; clear n0_ n1_ n2_ n3_ n4_ n5_ n6_ n7_ n8_ n9_ n10_ n11_ n12_ n13_ n14_ n15_ n16_ n17_ n18_; clear hb hbox hg; have hnb82 := NB704_679.out; have hnc82 := NB679_704.out; have hnb83 := NB704_680.out; have hnc83 := NB680_704.out; have hnb84 := NB704_681.out; have hnc84 := NB681_704.out; have hnb85 := NB704_688.out; have hnc85 := NB688_704.out; have hnb86 := NB704_695.out; have hnc86 := NB695_704.out; obtain ⟨hcz87_0, hcz87_1, hcz87_2, hcz87_3, hcz87_4, hcz87_5⟩ := bc6 BK704.out; obtain ⟨hfz87_0, hfz87_1, hfz87_2, hfz87_3, hfz87_4, hfz87_5⟩ := bf6 BK704.out))
         go_ret
         exact ⟨by first | rfl | (simp [errW_none, errW_some] <;> rfl) | (simp [*, errW_none, errW_some] <;> rfl), by repeat (first | (with_reducible first | exact HB.out | apply lA | apply lN | apply lD | refine lS ?_ GE679.out | refine lS ?_ GE680.out | refine lS ?_ GE681.out | refine lS ?_ GE688.out | refine lS ?_ GE695.out | refine lS ?_ GE704.out) | exact HB.out)⟩
        ·replace c64 := Bool.eq_false_iff.mpr c64
         subst c64
         have H1 : (if (wrap64 (t676 + t697)) > 100000000 then (some true) else (some false)) = some r := by rw [if_neg (show ¬ (false = true) by decide)] at H; exact H
         clear H
         have H := H1
         clear H1
         by_cases c88 : (wrap64 (t676 + t697)) > 100000000
         ·rw [if_pos c88] at H
          have c88b0 : decide (100000000 < (wrap64 (t676 + t697))) = true := decide_eq_true c88
          clear c88
          obtain rfl := Option.some.inj H
          try go_wp2
          have n0_ : Aside0 ((((((w55.setCell ⟨gb695, 0, none⟩ (.int .i64 t674)).setCell ⟨gb695, 1, none⟩ (.int .i64 t675)).setCell ⟨gb695, 2, none⟩ (.int .i64 t676)).setCell ⟨gb695, 3, none⟩ (.int .i64 t677)).setCell ⟨gb695, 4, none⟩ (.bool t678)).heap[gb679]? = some (.cells #[.int .i64 t667, .int .i64 t668, .int .i64 t669, .int .i64 t670, .int .i64 t671] 24 (0, 0))) := ⟨by refine blk_far ?_ NB679_695.out _; refine blk_far ?_ NB679_695.out _; refine blk_far ?_ NB679_695.out _; refine blk_far ?_ NB679_695.out _; refine blk_far ?_ NB679_695.out _; (with_reducible repeat (first | refine bN ?_ _ | refine bD ?_ | refine bA ?_ _)); exact BK679.out⟩
          have n1_ : Aside0 ((((((w55.setCell ⟨gb695, 0, none⟩ (.int .i64 t674)).setCell ⟨gb695, 1, none⟩ (.int .i64 t675)).setCell ⟨gb695, 2, none⟩ (.int .i64 t676)).setCell ⟨gb695, 3, none⟩ (.int .i64 t677)).setCell ⟨gb695, 4, none⟩ (.bool t678)).heap[gb680]? = some (.cells #[.int .i64 t672, .int .i64 t673] 31 (0, 0))) := ⟨by refine blk_far ?_ NB680_695.out _; refine blk_far ?_ NB680_695.out _; refine blk_far ?_ NB680_695.out _; refine blk_far ?_ NB680_695.out _; refine blk_far ?_ NB680_695.out _; (with_reducible repeat (first | refine bN ?_ _ | refine bD ?_ | refine bA ?_ _)); exact BK680.out⟩
          have n2_ : Aside0 ((((((w55.setCell ⟨gb695, 0, none⟩ (.int .i64 t674)).setCell ⟨gb695, 1, none⟩ (.int .i64 t675)).setCell ⟨gb695, 2, none⟩ (.int .i64 t676)).setCell ⟨gb695, 3, none⟩ (.int .i64 t677)).setCell ⟨gb695, 4, none⟩ (.bool t678)).heap[gb681]? = some (.cells #[.int .i64 t674, .int .i64 t675, .int .i64 t676, .int .i64 t677, .bool t678] 44 (0, 0))) := ⟨by refine blk_far ?_ NB681_695.out _; refine blk_far ?_ NB681_695.out _; refine blk_far ?_ NB681_695.out _; refine blk_far ?_ NB681_695.out _; refine blk_far ?_ NB681_695.out _; (with_reducible repeat (first | refine bN ?_ _ | refine bD ?_ | refine bA ?_ _)); exact BK681.out⟩
          have n3_ : Aside0 ((((((w55.setCell ⟨gb695, 0, none⟩ (.int .i64 t674)).setCell ⟨gb695, 1, none⟩ (.int .i64 t675)).setCell ⟨gb695, 2, none⟩ (.int .i64 t676)).setCell ⟨gb695, 3, none⟩ (.int .i64 t677)).setCell ⟨gb695, 4, none⟩ (.bool t678)).heap[gb688]? = some (.cells #[.bool t682, .int .i64 t683, .int .i64 t684, .int .i64 t685, .bool t686, .bool t687] 33 (0, 0))) := ⟨by refine blk_far ?_ NB688_695.out _; refine blk_far ?_ NB688_695.out _; refine blk_far ?_ NB688_695.out _; refine blk_far ?_ NB688_695.out _; refine blk_far ?_ NB688_695.out _; (with_reducible repeat (first | refine bN ?_ _ | refine bD ?_ | refine bA ?_ _)); exact BK688.out⟩
          have n4_ : Aside0 ((((((w55.setCell ⟨gb695, 0, none⟩ (.int .i64 t674)).setCell ⟨gb695, 1, none⟩ (.int .i64 t675)).setCell ⟨gb695, 2, none⟩ (.int .i64 t676)).setCell ⟨gb695, 3, none⟩ (.int .i64 t677)).setCell ⟨gb695, 4, none⟩ (.bool t678)).heap[gb695]? = some (.cells #[.int .i64 t674, .int .i64 t675, .int .i64 t676, .int .i64 t677, .bool t678] 44 (0, 0))) := ⟨by refine blk_put (cs := #[.int .i64 t674, .int .i64 t675, .int .i64 t676, .int .i64 t677, .bool false]) ?_ 4 _ rfl; refine blk_put (cs := #[.int .i64 t674, .int .i64 t675, .int .i64 t676, .int .i64 0, .bool false]) ?_ 3 _ rfl; refine blk_put (cs := #[.int .i64 t674, .int .i64 t675, .int .i64 0, .int .i64 0, .bool false]) ?_ 2 _ rfl; refine blk_put (cs := #[.int .i64 t674, .int .i64 0, .int .i64 0, .int .i64 0, .bool false]) ?_ 1 _ rfl; refine blk_put (cs := #[.int .i64 0, .int .i64 0, .int .i64 0, .int .i64 0, .bool false]) ?_ 0 _ rfl; (with_reducible repeat (first | refine bN ?_ _ | refine bD ?_ | refine bA ?_ _)); exact BK695.out⟩
          have n5_ : Aside0 (Below w.heap.size w (((((w55.setCell ⟨gb695, 0, none⟩ (.int .i64 t674)).setCell ⟨gb695, 1, none⟩ (.int .i64 t675)).setCell ⟨gb695, 2, none⟩ (.int .i64 t676)).setCell ⟨gb695, 3, none⟩ (.int .i64 t677)).setCell ⟨gb695, 4, none⟩ (.bool t678))) := ⟨by repeat (first | (with_reducible first | exact HB.out | apply lA | apply lN | apply lD | refine lS ?_ GE679.out | refine lS ?_ GE680.out | refine lS ?_ GE681.out | refine lS ?_ GE688.out | refine lS ?_ GE695.out) | exact HB.out)⟩
          (try clear BK679)
          (try clear BK680)
          (try clear BK681)
          (try clear BK688)
          (try clear BK695)
          (try clear HB)
          generalize (((((w55.setCell ⟨gb695, 0, none⟩ (.int .i64 t674)).setCell ⟨gb695, 1, none⟩ (.int .i64 t675)).setCell ⟨gb695, 2, none⟩ (.int .i64 t676)).setCell ⟨gb695, 3, none⟩ (.int .i64 t677)).setCell ⟨gb695, 4, none⟩ (.bool t678)) = w89 at n0_ n1_ n2_ n3_ n4_ n5_ ⊢
          have n0_ := MK (bN n0_.out nd)
          have n1_ := MK (bN n1_.out nd)
          have n2_ := MK (bN n2_.out nd)
          have n3_ := MK (bN n3_.out nd)
          have n4_ := MK (bN n4_.out nd)
          have n5_ := MK (lN n5_.out nd)
          generalize w89.drewN nd = w89 at n0_ n1_ n2_ n3_ n4_ n5_ ⊢
          have BK679 := n0_
          have BK680 := n1_
          have BK681 := n2_
          have BK688 := n3_
          have BK695 := n4_
          have HB := n5_
          clear n0_ n1_ n2_ n3_ n4_ n5_
          have n0_ := MK (bD BK679.out)
          have n1_ := MK (bD BK680.out)
          have n2_ := MK (bD BK681.out)
          have n3_ := MK (bD BK688.out)
          have n4_ := MK (bD BK695.out)
          have n5_ := MK (lD HB.out)
          clear BK679
          clear BK680
          clear BK681
          clear BK688
          clear BK695
          clear HB
          have BK679 := n0_
          have BK680 := n1_
          have BK681 := n2_
          have BK688 := n3_
          have BK695 := n4_
          have HB := n5_
          clear n0_ n1_ n2_ n3_ n4_ n5_
          refine start_ (n := 7) (S := fun w' => w'.cell? ⟨gb695, 0, none⟩ = some (.int .i64 t674) ∧ w'.cell? ⟨gb695, 1, none⟩ = some (.int .i64 t675) ∧ w'.cell? ⟨gb695, 2, none⟩ = some (.int .i64 t676) ∧ w'.cell? ⟨gb695, 3, none⟩ = some (.int .i64 t677) ∧ w'.cell? ⟨gb695, 4, none⟩ = some (.bool t678)) (ds := [6]) #[false, false, false, false, false, false, false] (by kernel_rfl) rfl rfl ⟨(blk_cell BK695.out 0).trans rfl, (blk_cell BK695.out 1).trans rfl, (blk_cell BK695.out 2).trans rfl, (blk_cell BK695.out 3).trans rfl, (blk_cell BK695.out 4).trans rfl⟩ (fun hHeld => ?_)
          generalize w89.drew = w90 at BK679 BK680 BK681 BK688 BK695 HB hHeld ⊢
          refine pure_ (i := 0) (N := some 65) (v := ?_) (a' := ?_) #[true, false, false, false, false, false, false] rfl rfl (by kernel_rfl) (fun _ _ _ h => h) (Or.inl ⟨by rfl, ?_⟩) ?_ ?_
          rotate_left
          ·intro w'; go_simp; with_reducible rfl
          rotate_left
          ·simp only [Act.put, List.setIfInBounds_toArray, List.set_cons_zero, List.set_cons_succ, i64_w, i32_w]; rfl
          refine pure_ (i := 2) (N := some 67) (v := ?_) (a' := ?_) #[true, false, true, false, false, false, false] rfl rfl (by kernel_rfl) (fun _ _ _ h => h) (Or.inl ⟨by rfl, ?_⟩) ?_ ?_
          rotate_left
          ·intro w'; go_simp; with_reducible rfl
          rotate_left
          ·simp only [Act.put, List.setIfInBounds_toArray, List.set_cons_zero, List.set_cons_succ, i64_w, i32_w]; rfl
          refine take_ (i := 1) (N := some 66) (v := ?_) (a' := ?_) #[true, true, true, false, false, false, false] rfl rfl (by kernel_rfl) (fun _ _ _ h => h) (Or.inl ⟨by rfl, ?_⟩) hHeld ?_ ?_
          rotate_left
          ·rintro w' ⟨s0, s1, s2, s3, s4⟩; go_simp; with_reducible rfl
          rotate_left
          ·simp only [Act.put, List.setIfInBounds_toArray, List.set_cons_zero, List.set_cons_succ, i64_w, i32_w]; rfl
          refine one_ (i := 3) (N := some 68) #[true, true, true, true, false, false, false] rfl rfl (by kernel_rfl) (by decide) (fun K hK => ?_)
          refine goes_ Try.func11 (by kernel_rfl) rfl #[.slice A1 l1.length c1, .int .i64 1] (by rfl) rfl rfl (by (try simp only [List.map_toArray, List.map_cons, List.map_nil]); first | done | rfl | (simp only [List.length_drop, List.length_take]; rfl)) ?_
          with_reducible refine (laws_wByte.calls _ _ l1 1 t697 _ ?side1 ?side2 A62.out).mono ?_
          (case side1 => repeat (first | exact (Kd.C_below HR1.out HB.out) | (with_reducible refine Kd.C_alloc ?_ _) | (with_reducible refine Kd.C_drewN ?_ _) | (with_reducible refine Kd.C_drew ?_)))
          (case side2 => exact HC1.out)
          rintro e w' ⟨rfl, ⟨nd, rfl⟩⟩
          refine ⟨_, rfl, ?_⟩
          refine hK.out _ _ ⟨(blk_cell BK695.out 0).trans rfl, (blk_cell BK695.out 1).trans rfl, (blk_cell BK695.out 2).trans rfl, (blk_cell BK695.out 3).trans rfl, (blk_cell BK695.out 4).trans rfl⟩ (fun hHeld => ?_)
          clear hK K
          refine norm_ (a' := ?_) ?_ ?_
          rotate_left
          ·show Act.put _ (some 68) _ = _; simp only [Act.put, List.setIfInBounds_toArray, List.set_cons_zero, List.set_cons_succ, i64_w, i32_w]; rfl
          refine pure_ (i := 4) (N := some 69) (v := ?_) (a' := ?_) #[true, true, true, true, true, false, false] rfl rfl (by kernel_rfl) (fun _ _ _ h => h) (Or.inl ⟨by rfl, ?_⟩) ?_ ?_
          rotate_left
          ·intro w'; go_simp; with_reducible rfl
          rotate_left
          ·simp only [Act.put, List.setIfInBounds_toArray, List.set_cons_zero, List.set_cons_succ, i64_w, i32_w]; rfl
          refine pure_ (i := 5) (N := some 70) (v := ?_) (a' := ?_) #[true, true, true, true, true, true, false] rfl rfl (by kernel_rfl) (fun _ _ _ h => h) (Or.inl ⟨by rfl, ?_⟩) ?_ ?_
          rotate_left
          ·intro w'; go_simp; with_reducible rfl
          rotate_left
          ·simp only [Act.put, List.setIfInBounds_toArray, List.set_cons_zero, List.set_cons_succ, i64_w, i32_w]; rfl
          refine last_ (i := 6) (N := none) #[true, true, true, true, true, true, true] rfl rfl (by kernel_rfl) (by decide) (fun K hK => ?_)
          have hs91 : w90.cell? ⟨gb695, 2, none⟩ = some (.int .i64 t676) := (blk_cell BK695.out 2).trans rfl
          have hfs91 := blk_frozen BK695.out 2
          have hns91_0 := NB679_695.out
          have hns91_1 := NB680_695.out
          have hns91_2 := NB681_695.out
          have hns91_3 := NB688_695.out
          have hms91_0 := NB695_679.out
          have hms91_1 := NB695_680.out
          have hms91_2 := NB695_681.out
          have hms91_3 := NB695_688.out
          refine skip_ (w1 := ?_) (by rfl) rfl ?_ ?_
          rotate_left
          ·go_simp
           rfl
          refine hK.out _ _ ?_
          clear hK K
          refine done_ (by kernel_rfl) ?_
          have hnb92 := NB679_680.out
          have hnc92 := NB680_679.out
          have hnb93 := NB679_681.out
          have hnc93 := NB681_679.out
          have hnb94 := NB679_688.out
          have hnc94 := NB688_679.out
          have hnb95 := NB679_695.out
          have hnc95 := NB695_679.out
          obtain ⟨hcz96_0, hcz96_1, hcz96_2, hcz96_3, hcz96_4⟩ := bc5 BK679.out
          obtain ⟨hfz96_0, hfz96_1, hfz96_2, hfz96_3, hfz96_4⟩ := bf5 BK679.out
          have hnb97 := NB680_681.out
          have hnc97 := NB681_680.out
          have hnb98 := NB680_688.out
          have hnc98 := NB688_680.out
          have hnb99 := NB680_695.out
          have hnc99 := NB695_680.out
          obtain ⟨hcz100_0, hcz100_1⟩ := bc2 BK680.out
          obtain ⟨hfz100_0, hfz100_1⟩ := bf2 BK680.out
          have hnb101 := NB695_681.out
          have hnc101 := NB681_695.out
          have hnb102 := NB695_688.out
          have hnc102 := NB688_695.out
          obtain ⟨hcz103_0, hcz103_1, hcz103_2, hcz103_3, hcz103_4⟩ := bc5 BK695.out
          obtain ⟨hfz103_0, hfz103_1, hfz103_2, hfz103_3, hfz103_4⟩ := bf5 BK695.out
          try go_wp2_with (first | ((with_reducible refine gate_callee (f := 21) rfl ?_); refine goesL_ (some 86) rfl rfl Try.func21 (by kernel_rfl) rfl #[.agg #[.int .i64 t667, .int .i64 t668, .int .i64 t669, .int .i64 t670, .int .i64 t671], .agg #[.int .i64 t672, .int .i64 t673], .agg #[.int .i64 t674, .int .i64 t675, .int .i64 (wrap64 (t676 + t697)), .int .i64 t677, .bool t678]] rfl (by (try simp only [List.map_toArray, List.map_cons, List.map_nil]); first | done | rfl | (simp only [List.length_drop, List.length_take]; rfl)) ?_; (with_reducible refine (impl_Tick.calls kj7 t667 t668 t669 t670 t671 t672 t673 t674 t675 (wrap64 (t676 + t697)) t677 t678 false t699 t700 t701 t702 t703 _ A63.out).mono ?_); rintro e w104 ⟨rfl, hb⟩; refine ⟨_, rfl, ?_⟩; have n0_ := MK (blk_below (g := gb679) (o := .cells #[.int .i64 t667, .int .i64 t668, .int .i64 t669, .int .i64 t670, .int .i64 t671] 24 (0, 0)) (by (with_reducible repeat (first | refine bN ?_ _ | refine bD ?_ | refine bA ?_ _)); refine blk_far ?_ NB679_695.out _; (with_reducible repeat (first | refine bN ?_ _ | refine bD ?_ | refine bA ?_ _)); exact BK679.out) hb); have n1_ := MK (blk_below (g := gb680) (o := .cells #[.int .i64 t672, .int .i64 t673] 31 (0, 0)) (by (with_reducible repeat (first | refine bN ?_ _ | refine bD ?_ | refine bA ?_ _)); refine blk_far ?_ NB680_695.out _; (with_reducible repeat (first | refine bN ?_ _ | refine bD ?_ | refine bA ?_ _)); exact BK680.out) hb); have n2_ := MK (blk_below (g := gb681) (o := .cells #[.int .i64 t674, .int .i64 t675, .int .i64 t676, .int .i64 t677, .bool t678] 44 (0, 0)) (by (with_reducible repeat (first | refine bN ?_ _ | refine bD ?_ | refine bA ?_ _)); refine blk_far ?_ NB681_695.out _; (with_reducible repeat (first | refine bN ?_ _ | refine bD ?_ | refine bA ?_ _)); exact BK681.out) hb); have n3_ := MK (blk_below (g := gb688) (o := .cells #[.bool t682, .int .i64 t683, .int .i64 t684, .int .i64 t685, .bool t686, .bool t687] 33 (0, 0)) (by (with_reducible repeat (first | refine bN ?_ _ | refine bD ?_ | refine bA ?_ _)); refine blk_far ?_ NB688_695.out _; (with_reducible repeat (first | refine bN ?_ _ | refine bD ?_ | refine bA ?_ _)); exact BK688.out) hb); have n4_ := MK (blk_below (g := gb695) (o := .cells #[.int .i64 t674, .int .i64 t675, .int .i64 (wrap64 (t676 + t697)), .int .i64 t677, .bool t678] 44 (0, 0)) (by (with_reducible repeat (first | refine bN ?_ _ | refine bD ?_ | refine bA ?_ _)); refine blk_put (cs := #[.int .i64 t674, .int .i64 t675, .int .i64 t676, .int .i64 t677, .bool t678]) ?_ 2 _ rfl; (with_reducible repeat (first | refine bN ?_ _ | refine bD ?_ | refine bA ?_ _)); exact BK695.out) hb); have n5_ := MK (below_step (by repeat (first | (with_reducible first | exact HB.out | apply lA | apply lN | apply lD | refine lS ?_ GE679.out | refine lS ?_ GE680.out | refine lS ?_ GE681.out | refine lS ?_ GE688.out | refine lS ?_ GE695.out) | exact HB.out)) hb); clear BK679; clear BK680; clear BK681; clear BK688; clear BK695; clear HB; have BK679 := n0_; have BK680 := n1_; have BK681 := n2_; have BK688 := n3_; have BK695 := n4_; have HB := n5_; clear n0_ n1_ n2_ n3_ n4_ n5_; (try clear hb); (try clear hb2); (try clear hk); (try clear hi)) | ((with_reducible refine gate_dst (N := 10) rfl ?_); (try (refine gate_guard (by rfl) ?_; dsimp only)); refine box_event ?hg (N := 10) ?hd (cs := #[.bool false, .int .i64 0, .int .i64 0, .int .i64 0, .bool false, .bool false]) (t := 33) ?hr ?_; (case hd => rfl); (case hg => rfl); (case hr => first | (go_simp; done) | (go_simp; rfl)); intro gb704 hg w105 hbox hb; have n0_ := MK (blk_below (by (with_reducible repeat (first | refine bN ?_ _ | refine bD ?_ | refine bA ?_ _)); exact BK679.out) hb); have n1_ := MK (blk_below (by (with_reducible repeat (first | refine bN ?_ _ | refine bD ?_ | refine bA ?_ _)); exact BK680.out) hb); have n2_ := MK (blk_below (by (with_reducible repeat (first | refine bN ?_ _ | refine bD ?_ | refine bA ?_ _)); exact BK681.out) hb); have n3_ := MK (blk_below (by (with_reducible repeat (first | refine bN ?_ _ | refine bD ?_ | refine bA ?_ _)); exact BK688.out) hb); have n4_ := MK (blk_below (by (with_reducible repeat (first | refine bN ?_ _ | refine bD ?_ | refine bA ?_ _)); exact BK695.out) hb); have n5_ := MK (below_step (by repeat (first | (with_reducible first | exact HB.out | apply lA | apply lN | apply lD | refine lS ?_ GE679.out | refine lS ?_ GE680.out | refine lS ?_ GE681.out | refine lS ?_ GE688.out | refine lS ?_ GE695.out) | exact HB.out)) hb); have n6_ := MK (hbox); have n7_ := MK ((by rw [hg]; exact (below_size (by repeat (first | (with_reducible first | exact HB.out | apply lA | apply lN | apply lD | refine lS ?_ GE679.out | refine lS ?_ GE680.out | refine lS ?_ GE681.out | refine lS ?_ GE688.out | refine lS ?_ GE695.out) | exact HB.out))) : w.heap.size ≤ gb704)); have n8_ := MK ((by rw [hg]; exact (below_size (by repeat (first | (with_reducible first | exact HB.out | apply lA | apply lN | apply lD | refine lS ?_ GE679.out | refine lS ?_ GE680.out | refine lS ?_ GE681.out | refine lS ?_ GE688.out | refine lS ?_ GE695.out) | exact HB.out))) : w.heap.size ≤ gb704)); have n9_ := MK ((by rw [hg]; exact Nat.ne_of_lt (blk_lt (by (with_reducible repeat (first | refine bN ?_ _ | refine bD ?_ | refine bA ?_ _)); exact BK679.out)) : gb679 ≠ gb704)); have n10_ := MK ((by rw [hg]; exact Nat.ne_of_gt (blk_lt (by (with_reducible repeat (first | refine bN ?_ _ | refine bD ?_ | refine bA ?_ _)); exact BK679.out)) : gb704 ≠ gb679)); have n11_ := MK ((by rw [hg]; exact Nat.ne_of_lt (blk_lt (by (with_reducible repeat (first | refine bN ?_ _ | refine bD ?_ | refine bA ?_ _)); exact BK680.out)) : gb680 ≠ gb704)); have n12_ := MK ((by rw [hg]; exact Nat.ne_of_gt (blk_lt (by (with_reducible repeat (first | refine bN ?_ _ | refine bD ?_ | refine bA ?_ _)); exact BK680.out)) : gb704 ≠ gb680)); have n13_ := MK ((by rw [hg]; exact Nat.ne_of_lt (blk_lt (by (with_reducible repeat (first | refine bN ?_ _ | refine bD ?_ | refine bA ?_ _)); exact BK681.out)) : gb681 ≠ gb704)); have n14_ := MK ((by rw [hg]; exact Nat.ne_of_gt (blk_lt (by (with_reducible repeat (first | refine bN ?_ _ | refine bD ?_ | refine bA ?_ _)); exact BK681.out)) : gb704 ≠ gb681)); have n15_ := MK ((by rw [hg]; exact Nat.ne_of_lt (blk_lt (by (with_reducible repeat (first | refine bN ?_ _ | refine bD ?_ | refine bA ?_ _)); exact BK688.out)) : gb688 ≠ gb704)); have n16_ := MK ((by rw [hg]; exact Nat.ne_of_gt (blk_lt (by (with_reducible repeat (first | refine bN ?_ _ | refine bD ?_ | refine bA ?_ _)); exact BK688.out)) : gb704 ≠ gb688)); have n17_ := MK ((by rw [hg]; exact Nat.ne_of_lt (blk_lt (by (with_reducible repeat (first | refine bN ?_ _ | refine bD ?_ | refine bA ?_ _)); exact BK695.out)) : gb695 ≠ gb704)); have n18_ := MK ((by rw [hg]; exact Nat.ne_of_gt (blk_lt (by (with_reducible repeat (first | refine bN ?_ _ | refine bD ?_ | refine bA ?_ _)); exact BK695.out)) : gb704 ≠ gb695)); clear BK679; clear BK680; clear BK681; clear BK688; clear BK695; clear HB; have BK679 := n0_; have BK680 := n1_; have BK681 := n2_; have BK688 := n3_; have BK695 := n4_; have HB := n5_; have BK704 := n6_; have GW704 := n7_; have GE704 := n8_; have NB679_704 := n9_; have NB704_679 := n10_; have NB680_704 := n11_; have NB704_680 := n12_; have NB681_704 := n13_; have NB704_681 := n14_; have NB688_704 := n15_; have NB704_688 := n16_; have NB695_704 := n17_; have NB704_695 := n18_; clear n0_ n1_ n2_ n3_ n4_ n5_ n6_ n7_ n8_ n9_ n10_ n11_ n12_ n13_ n14_ n15_ n16_ n17_ n18_; clear hb hbox hg; have hnb106 := NB704_679.out; have hnc106 := NB679_704.out; have hnb107 := NB704_680.out; have hnc107 := NB680_704.out; have hnb108 := NB704_681.out; have hnc108 := NB681_704.out; have hnb109 := NB704_688.out; have hnc109 := NB688_704.out; have hnb110 := NB704_695.out; have hnc110 := NB695_704.out; obtain ⟨hcz111_0, hcz111_1, hcz111_2, hcz111_3, hcz111_4, hcz111_5⟩ := bc6 BK704.out; obtain ⟨hfz111_0, hfz111_1, hfz111_2, hfz111_3, hfz111_4, hfz111_5⟩ := bf6 BK704.out; obtain ⟨hcz112_0, hcz112_1, hcz112_2, hcz112_3, hcz112_4⟩ := bc5 BK695.out; obtain ⟨hfz112_0, hfz112_1, hfz112_2, hfz112_3, hfz112_4⟩ := bf5 BK695.out))
          go_ret
          exact ⟨by first | rfl | (simp [errW_none, errW_some] <;> rfl) | (simp [*, errW_none, errW_some] <;> rfl), by repeat (first | (with_reducible first | exact HB.out | apply lA | apply lN | apply lD | refine lS ?_ GE679.out | refine lS ?_ GE680.out | refine lS ?_ GE681.out | refine lS ?_ GE688.out | refine lS ?_ GE695.out | refine lS ?_ GE704.out) | exact HB.out)⟩
         ·rw [if_neg c88] at H
          have c88b0 : decide (100000000 < (wrap64 (t676 + t697))) = false := decide_eq_false c88
          clear c88
          obtain rfl := Option.some.inj H
          try go_wp2
          have n0_ : Aside0 ((((((w55.setCell ⟨gb695, 0, none⟩ (.int .i64 t674)).setCell ⟨gb695, 1, none⟩ (.int .i64 t675)).setCell ⟨gb695, 2, none⟩ (.int .i64 t676)).setCell ⟨gb695, 3, none⟩ (.int .i64 t677)).setCell ⟨gb695, 4, none⟩ (.bool t678)).heap[gb679]? = some (.cells #[.int .i64 t667, .int .i64 t668, .int .i64 t669, .int .i64 t670, .int .i64 t671] 24 (0, 0))) := ⟨by refine blk_far ?_ NB679_695.out _; refine blk_far ?_ NB679_695.out _; refine blk_far ?_ NB679_695.out _; refine blk_far ?_ NB679_695.out _; refine blk_far ?_ NB679_695.out _; (with_reducible repeat (first | refine bN ?_ _ | refine bD ?_ | refine bA ?_ _)); exact BK679.out⟩
          have n1_ : Aside0 ((((((w55.setCell ⟨gb695, 0, none⟩ (.int .i64 t674)).setCell ⟨gb695, 1, none⟩ (.int .i64 t675)).setCell ⟨gb695, 2, none⟩ (.int .i64 t676)).setCell ⟨gb695, 3, none⟩ (.int .i64 t677)).setCell ⟨gb695, 4, none⟩ (.bool t678)).heap[gb680]? = some (.cells #[.int .i64 t672, .int .i64 t673] 31 (0, 0))) := ⟨by refine blk_far ?_ NB680_695.out _; refine blk_far ?_ NB680_695.out _; refine blk_far ?_ NB680_695.out _; refine blk_far ?_ NB680_695.out _; refine blk_far ?_ NB680_695.out _; (with_reducible repeat (first | refine bN ?_ _ | refine bD ?_ | refine bA ?_ _)); exact BK680.out⟩
          have n2_ : Aside0 ((((((w55.setCell ⟨gb695, 0, none⟩ (.int .i64 t674)).setCell ⟨gb695, 1, none⟩ (.int .i64 t675)).setCell ⟨gb695, 2, none⟩ (.int .i64 t676)).setCell ⟨gb695, 3, none⟩ (.int .i64 t677)).setCell ⟨gb695, 4, none⟩ (.bool t678)).heap[gb681]? = some (.cells #[.int .i64 t674, .int .i64 t675, .int .i64 t676, .int .i64 t677, .bool t678] 44 (0, 0))) := ⟨by refine blk_far ?_ NB681_695.out _; refine blk_far ?_ NB681_695.out _; refine blk_far ?_ NB681_695.out _; refine blk_far ?_ NB681_695.out _; refine blk_far ?_ NB681_695.out _; (with_reducible repeat (first | refine bN ?_ _ | refine bD ?_ | refine bA ?_ _)); exact BK681.out⟩
          have n3_ : Aside0 ((((((w55.setCell ⟨gb695, 0, none⟩ (.int .i64 t674)).setCell ⟨gb695, 1, none⟩ (.int .i64 t675)).setCell ⟨gb695, 2, none⟩ (.int .i64 t676)).setCell ⟨gb695, 3, none⟩ (.int .i64 t677)).setCell ⟨gb695, 4, none⟩ (.bool t678)).heap[gb688]? = some (.cells #[.bool t682, .int .i64 t683, .int .i64 t684, .int .i64 t685, .bool t686, .bool t687] 33 (0, 0))) := ⟨by refine blk_far ?_ NB688_695.out _; refine blk_far ?_ NB688_695.out _; refine blk_far ?_ NB688_695.out _; refine blk_far ?_ NB688_695.out _; refine blk_far ?_ NB688_695.out _; (with_reducible repeat (first | refine bN ?_ _ | refine bD ?_ | refine bA ?_ _)); exact BK688.out⟩
          have n4_ : Aside0 ((((((w55.setCell ⟨gb695, 0, none⟩ (.int .i64 t674)).setCell ⟨gb695, 1, none⟩ (.int .i64 t675)).setCell ⟨gb695, 2, none⟩ (.int .i64 t676)).setCell ⟨gb695, 3, none⟩ (.int .i64 t677)).setCell ⟨gb695, 4, none⟩ (.bool t678)).heap[gb695]? = some (.cells #[.int .i64 t674, .int .i64 t675, .int .i64 t676, .int .i64 t677, .bool t678] 44 (0, 0))) := ⟨by refine blk_put (cs := #[.int .i64 t674, .int .i64 t675, .int .i64 t676, .int .i64 t677, .bool false]) ?_ 4 _ rfl; refine blk_put (cs := #[.int .i64 t674, .int .i64 t675, .int .i64 t676, .int .i64 0, .bool false]) ?_ 3 _ rfl; refine blk_put (cs := #[.int .i64 t674, .int .i64 t675, .int .i64 0, .int .i64 0, .bool false]) ?_ 2 _ rfl; refine blk_put (cs := #[.int .i64 t674, .int .i64 0, .int .i64 0, .int .i64 0, .bool false]) ?_ 1 _ rfl; refine blk_put (cs := #[.int .i64 0, .int .i64 0, .int .i64 0, .int .i64 0, .bool false]) ?_ 0 _ rfl; (with_reducible repeat (first | refine bN ?_ _ | refine bD ?_ | refine bA ?_ _)); exact BK695.out⟩
          have n5_ : Aside0 (Below w.heap.size w (((((w55.setCell ⟨gb695, 0, none⟩ (.int .i64 t674)).setCell ⟨gb695, 1, none⟩ (.int .i64 t675)).setCell ⟨gb695, 2, none⟩ (.int .i64 t676)).setCell ⟨gb695, 3, none⟩ (.int .i64 t677)).setCell ⟨gb695, 4, none⟩ (.bool t678))) := ⟨by repeat (first | (with_reducible first | exact HB.out | apply lA | apply lN | apply lD | refine lS ?_ GE679.out | refine lS ?_ GE680.out | refine lS ?_ GE681.out | refine lS ?_ GE688.out | refine lS ?_ GE695.out) | exact HB.out)⟩
          (try clear BK679)
          (try clear BK680)
          (try clear BK681)
          (try clear BK688)
          (try clear BK695)
          (try clear HB)
          generalize (((((w55.setCell ⟨gb695, 0, none⟩ (.int .i64 t674)).setCell ⟨gb695, 1, none⟩ (.int .i64 t675)).setCell ⟨gb695, 2, none⟩ (.int .i64 t676)).setCell ⟨gb695, 3, none⟩ (.int .i64 t677)).setCell ⟨gb695, 4, none⟩ (.bool t678)) = w113 at n0_ n1_ n2_ n3_ n4_ n5_ ⊢
          have n0_ := MK (bN n0_.out nd)
          have n1_ := MK (bN n1_.out nd)
          have n2_ := MK (bN n2_.out nd)
          have n3_ := MK (bN n3_.out nd)
          have n4_ := MK (bN n4_.out nd)
          have n5_ := MK (lN n5_.out nd)
          generalize w113.drewN nd = w113 at n0_ n1_ n2_ n3_ n4_ n5_ ⊢
          have BK679 := n0_
          have BK680 := n1_
          have BK681 := n2_
          have BK688 := n3_
          have BK695 := n4_
          have HB := n5_
          clear n0_ n1_ n2_ n3_ n4_ n5_
          have n0_ := MK (bD BK679.out)
          have n1_ := MK (bD BK680.out)
          have n2_ := MK (bD BK681.out)
          have n3_ := MK (bD BK688.out)
          have n4_ := MK (bD BK695.out)
          have n5_ := MK (lD HB.out)
          clear BK679
          clear BK680
          clear BK681
          clear BK688
          clear BK695
          clear HB
          have BK679 := n0_
          have BK680 := n1_
          have BK681 := n2_
          have BK688 := n3_
          have BK695 := n4_
          have HB := n5_
          clear n0_ n1_ n2_ n3_ n4_ n5_
          refine start_ (n := 7) (S := fun w' => w'.cell? ⟨gb695, 0, none⟩ = some (.int .i64 t674) ∧ w'.cell? ⟨gb695, 1, none⟩ = some (.int .i64 t675) ∧ w'.cell? ⟨gb695, 2, none⟩ = some (.int .i64 t676) ∧ w'.cell? ⟨gb695, 3, none⟩ = some (.int .i64 t677) ∧ w'.cell? ⟨gb695, 4, none⟩ = some (.bool t678)) (ds := [6]) #[false, false, false, false, false, false, false] (by kernel_rfl) rfl rfl ⟨(blk_cell BK695.out 0).trans rfl, (blk_cell BK695.out 1).trans rfl, (blk_cell BK695.out 2).trans rfl, (blk_cell BK695.out 3).trans rfl, (blk_cell BK695.out 4).trans rfl⟩ (fun hHeld => ?_)
          generalize w113.drew = w114 at BK679 BK680 BK681 BK688 BK695 HB hHeld ⊢
          refine pure_ (i := 0) (N := some 65) (v := ?_) (a' := ?_) #[true, false, false, false, false, false, false] rfl rfl (by kernel_rfl) (fun _ _ _ h => h) (Or.inl ⟨by rfl, ?_⟩) ?_ ?_
          rotate_left
          ·intro w'; go_simp; with_reducible rfl
          rotate_left
          ·simp only [Act.put, List.setIfInBounds_toArray, List.set_cons_zero, List.set_cons_succ, i64_w, i32_w]; rfl
          refine pure_ (i := 2) (N := some 67) (v := ?_) (a' := ?_) #[true, false, true, false, false, false, false] rfl rfl (by kernel_rfl) (fun _ _ _ h => h) (Or.inl ⟨by rfl, ?_⟩) ?_ ?_
          rotate_left
          ·intro w'; go_simp; with_reducible rfl
          rotate_left
          ·simp only [Act.put, List.setIfInBounds_toArray, List.set_cons_zero, List.set_cons_succ, i64_w, i32_w]; rfl
          refine take_ (i := 1) (N := some 66) (v := ?_) (a' := ?_) #[true, true, true, false, false, false, false] rfl rfl (by kernel_rfl) (fun _ _ _ h => h) (Or.inl ⟨by rfl, ?_⟩) hHeld ?_ ?_
          rotate_left
          ·rintro w' ⟨s0, s1, s2, s3, s4⟩; go_simp; with_reducible rfl
          rotate_left
          ·simp only [Act.put, List.setIfInBounds_toArray, List.set_cons_zero, List.set_cons_succ, i64_w, i32_w]; rfl
          refine one_ (i := 3) (N := some 68) #[true, true, true, true, false, false, false] rfl rfl (by kernel_rfl) (by decide) (fun K hK => ?_)
          refine goes_ Try.func11 (by kernel_rfl) rfl #[.slice A1 l1.length c1, .int .i64 1] (by rfl) rfl rfl (by (try simp only [List.map_toArray, List.map_cons, List.map_nil]); first | done | rfl | (simp only [List.length_drop, List.length_take]; rfl)) ?_
          with_reducible refine (laws_wByte.calls _ _ l1 1 t697 _ ?side1 ?side2 A62.out).mono ?_
          (case side1 => repeat (first | exact (Kd.C_below HR1.out HB.out) | (with_reducible refine Kd.C_alloc ?_ _) | (with_reducible refine Kd.C_drewN ?_ _) | (with_reducible refine Kd.C_drew ?_)))
          (case side2 => exact HC1.out)
          rintro e w' ⟨rfl, ⟨nd, rfl⟩⟩
          refine ⟨_, rfl, ?_⟩
          refine hK.out _ _ ⟨(blk_cell BK695.out 0).trans rfl, (blk_cell BK695.out 1).trans rfl, (blk_cell BK695.out 2).trans rfl, (blk_cell BK695.out 3).trans rfl, (blk_cell BK695.out 4).trans rfl⟩ (fun hHeld => ?_)
          clear hK K
          refine norm_ (a' := ?_) ?_ ?_
          rotate_left
          ·show Act.put _ (some 68) _ = _; simp only [Act.put, List.setIfInBounds_toArray, List.set_cons_zero, List.set_cons_succ, i64_w, i32_w]; rfl
          refine pure_ (i := 4) (N := some 69) (v := ?_) (a' := ?_) #[true, true, true, true, true, false, false] rfl rfl (by kernel_rfl) (fun _ _ _ h => h) (Or.inl ⟨by rfl, ?_⟩) ?_ ?_
          rotate_left
          ·intro w'; go_simp; with_reducible rfl
          rotate_left
          ·simp only [Act.put, List.setIfInBounds_toArray, List.set_cons_zero, List.set_cons_succ, i64_w, i32_w]; rfl
          refine pure_ (i := 5) (N := some 70) (v := ?_) (a' := ?_) #[true, true, true, true, true, true, false] rfl rfl (by kernel_rfl) (fun _ _ _ h => h) (Or.inl ⟨by rfl, ?_⟩) ?_ ?_
          rotate_left
          ·intro w'; go_simp; with_reducible rfl
          rotate_left
          ·simp only [Act.put, List.setIfInBounds_toArray, List.set_cons_zero, List.set_cons_succ, i64_w, i32_w]; rfl
          refine last_ (i := 6) (N := none) #[true, true, true, true, true, true, true] rfl rfl (by kernel_rfl) (by decide) (fun K hK => ?_)
          have hs115 : w114.cell? ⟨gb695, 2, none⟩ = some (.int .i64 t676) := (blk_cell BK695.out 2).trans rfl
          have hfs115 := blk_frozen BK695.out 2
          have hns115_0 := NB679_695.out
          have hns115_1 := NB680_695.out
          have hns115_2 := NB681_695.out
          have hns115_3 := NB688_695.out
          have hms115_0 := NB695_679.out
          have hms115_1 := NB695_680.out
          have hms115_2 := NB695_681.out
          have hms115_3 := NB695_688.out
          refine skip_ (w1 := ?_) (by rfl) rfl ?_ ?_
          rotate_left
          ·go_simp
           rfl
          refine hK.out _ _ ?_
          clear hK K
          refine done_ (by kernel_rfl) ?_
          have hnb116 := NB679_680.out
          have hnc116 := NB680_679.out
          have hnb117 := NB679_681.out
          have hnc117 := NB681_679.out
          have hnb118 := NB679_688.out
          have hnc118 := NB688_679.out
          have hnb119 := NB679_695.out
          have hnc119 := NB695_679.out
          obtain ⟨hcz120_0, hcz120_1, hcz120_2, hcz120_3, hcz120_4⟩ := bc5 BK679.out
          obtain ⟨hfz120_0, hfz120_1, hfz120_2, hfz120_3, hfz120_4⟩ := bf5 BK679.out
          have hnb121 := NB680_681.out
          have hnc121 := NB681_680.out
          have hnb122 := NB680_688.out
          have hnc122 := NB688_680.out
          have hnb123 := NB680_695.out
          have hnc123 := NB695_680.out
          obtain ⟨hcz124_0, hcz124_1⟩ := bc2 BK680.out
          obtain ⟨hfz124_0, hfz124_1⟩ := bf2 BK680.out
          have hnb125 := NB695_681.out
          have hnc125 := NB681_695.out
          have hnb126 := NB695_688.out
          have hnc126 := NB688_695.out
          obtain ⟨hcz127_0, hcz127_1, hcz127_2, hcz127_3, hcz127_4⟩ := bc5 BK695.out
          obtain ⟨hfz127_0, hfz127_1, hfz127_2, hfz127_3, hfz127_4⟩ := bf5 BK695.out
          try go_wp2_with (first | ((with_reducible refine gate_callee (f := 21) rfl ?_); refine goesL_ (some 86) rfl rfl Try.func21 (by kernel_rfl) rfl #[.agg #[.int .i64 t667, .int .i64 t668, .int .i64 t669, .int .i64 t670, .int .i64 t671], .agg #[.int .i64 t672, .int .i64 t673], .agg #[.int .i64 t674, .int .i64 t675, .int .i64 (wrap64 (t676 + t697)), .int .i64 t677, .bool t678]] rfl (by (try simp only [List.map_toArray, List.map_cons, List.map_nil]); first | done | rfl | (simp only [List.length_drop, List.length_take]; rfl)) ?_; (with_reducible refine (impl_Tick.calls kj7 t667 t668 t669 t670 t671 t672 t673 t674 t675 (wrap64 (t676 + t697)) t677 t678 false t699 t700 t701 t702 t703 _ A63.out).mono ?_); rintro e w128 ⟨rfl, hb⟩; refine ⟨_, rfl, ?_⟩; have n0_ := MK (blk_below (g := gb679) (o := .cells #[.int .i64 t667, .int .i64 t668, .int .i64 t669, .int .i64 t670, .int .i64 t671] 24 (0, 0)) (by (with_reducible repeat (first | refine bN ?_ _ | refine bD ?_ | refine bA ?_ _)); refine blk_far ?_ NB679_695.out _; (with_reducible repeat (first | refine bN ?_ _ | refine bD ?_ | refine bA ?_ _)); exact BK679.out) hb); have n1_ := MK (blk_below (g := gb680) (o := .cells #[.int .i64 t672, .int .i64 t673] 31 (0, 0)) (by (with_reducible repeat (first | refine bN ?_ _ | refine bD ?_ | refine bA ?_ _)); refine blk_far ?_ NB680_695.out _; (with_reducible repeat (first | refine bN ?_ _ | refine bD ?_ | refine bA ?_ _)); exact BK680.out) hb); have n2_ := MK (blk_below (g := gb681) (o := .cells #[.int .i64 t674, .int .i64 t675, .int .i64 t676, .int .i64 t677, .bool t678] 44 (0, 0)) (by (with_reducible repeat (first | refine bN ?_ _ | refine bD ?_ | refine bA ?_ _)); refine blk_far ?_ NB681_695.out _; (with_reducible repeat (first | refine bN ?_ _ | refine bD ?_ | refine bA ?_ _)); exact BK681.out) hb); have n3_ := MK (blk_below (g := gb688) (o := .cells #[.bool t682, .int .i64 t683, .int .i64 t684, .int .i64 t685, .bool t686, .bool t687] 33 (0, 0)) (by (with_reducible repeat (first | refine bN ?_ _ | refine bD ?_ | refine bA ?_ _)); refine blk_far ?_ NB688_695.out _; (with_reducible repeat (first | refine bN ?_ _ | refine bD ?_ | refine bA ?_ _)); exact BK688.out) hb); have n4_ := MK (blk_below (g := gb695) (o := .cells #[.int .i64 t674, .int .i64 t675, .int .i64 (wrap64 (t676 + t697)), .int .i64 t677, .bool t678] 44 (0, 0)) (by (with_reducible repeat (first | refine bN ?_ _ | refine bD ?_ | refine bA ?_ _)); refine blk_put (cs := #[.int .i64 t674, .int .i64 t675, .int .i64 t676, .int .i64 t677, .bool t678]) ?_ 2 _ rfl; (with_reducible repeat (first | refine bN ?_ _ | refine bD ?_ | refine bA ?_ _)); exact BK695.out) hb); have n5_ := MK (below_step (by repeat (first | (with_reducible first | exact HB.out | apply lA | apply lN | apply lD | refine lS ?_ GE679.out | refine lS ?_ GE680.out | refine lS ?_ GE681.out | refine lS ?_ GE688.out | refine lS ?_ GE695.out) | exact HB.out)) hb); clear BK679; clear BK680; clear BK681; clear BK688; clear BK695; clear HB; have BK679 := n0_; have BK680 := n1_; have BK681 := n2_; have BK688 := n3_; have BK695 := n4_; have HB := n5_; clear n0_ n1_ n2_ n3_ n4_ n5_; (try clear hb); (try clear hb2); (try clear hk); (try clear hi)) | ((with_reducible refine gate_dst (N := 10) rfl ?_); (try (refine gate_guard (by rfl) ?_; dsimp only)); refine box_event ?hg (N := 10) ?hd (cs := #[.bool false, .int .i64 0, .int .i64 0, .int .i64 0, .bool false, .bool false]) (t := 33) ?hr ?_; (case hd => rfl); (case hg => rfl); (case hr => first | (go_simp; done) | (go_simp; rfl)); intro gb704 hg w129 hbox hb; have n0_ := MK (blk_below (by (with_reducible repeat (first | refine bN ?_ _ | refine bD ?_ | refine bA ?_ _)); exact BK679.out) hb); have n1_ := MK (blk_below (by (with_reducible repeat (first | refine bN ?_ _ | refine bD ?_ | refine bA ?_ _)); exact BK680.out) hb); have n2_ := MK (blk_below (by (with_reducible repeat (first | refine bN ?_ _ | refine bD ?_ | refine bA ?_ _)); exact BK681.out) hb); have n3_ := MK (blk_below (by (with_reducible repeat (first | refine bN ?_ _ | refine bD ?_ | refine bA ?_ _)); exact BK688.out) hb); have n4_ := MK (blk_below (by (with_reducible repeat (first | refine bN ?_ _ | refine bD ?_ | refine bA ?_ _)); exact BK695.out) hb); have n5_ := MK (below_step (by repeat (first | (with_reducible first | exact HB.out | apply lA | apply lN | apply lD | refine lS ?_ GE679.out | refine lS ?_ GE680.out | refine lS ?_ GE681.out | refine lS ?_ GE688.out | refine lS ?_ GE695.out) | exact HB.out)) hb); have n6_ := MK (hbox); have n7_ := MK ((by rw [hg]; exact (below_size (by repeat (first | (with_reducible first | exact HB.out | apply lA | apply lN | apply lD | refine lS ?_ GE679.out | refine lS ?_ GE680.out | refine lS ?_ GE681.out | refine lS ?_ GE688.out | refine lS ?_ GE695.out) | exact HB.out))) : w.heap.size ≤ gb704)); have n8_ := MK ((by rw [hg]; exact (below_size (by repeat (first | (with_reducible first | exact HB.out | apply lA | apply lN | apply lD | refine lS ?_ GE679.out | refine lS ?_ GE680.out | refine lS ?_ GE681.out | refine lS ?_ GE688.out | refine lS ?_ GE695.out) | exact HB.out))) : w.heap.size ≤ gb704)); have n9_ := MK ((by rw [hg]; exact Nat.ne_of_lt (blk_lt (by (with_reducible repeat (first | refine bN ?_ _ | refine bD ?_ | refine bA ?_ _)); exact BK679.out)) : gb679 ≠ gb704)); have n10_ := MK ((by rw [hg]; exact Nat.ne_of_gt (blk_lt (by (with_reducible repeat (first | refine bN ?_ _ | refine bD ?_ | refine bA ?_ _)); exact BK679.out)) : gb704 ≠ gb679)); have n11_ := MK ((by rw [hg]; exact Nat.ne_of_lt (blk_lt (by (with_reducible repeat (first | refine bN ?_ _ | refine bD ?_ | refine bA ?_ _)); exact BK680.out)) : gb680 ≠ gb704)); have n12_ := MK ((by rw [hg]; exact Nat.ne_of_gt (blk_lt (by (with_reducible repeat (first | refine bN ?_ _ | refine bD ?_ | refine bA ?_ _)); exact BK680.out)) : gb704 ≠ gb680)); have n13_ := MK ((by rw [hg]; exact Nat.ne_of_lt (blk_lt (by (with_reducible repeat (first | refine bN ?_ _ | refine bD ?_ | refine bA ?_ _)); exact BK681.out)) : gb681 ≠ gb704)); have n14_ := MK ((by rw [hg]; exact Nat.ne_of_gt (blk_lt (by (with_reducible repeat (first | refine bN ?_ _ | refine bD ?_ | refine bA ?_ _)); exact BK681.out)) : gb704 ≠ gb681)); have n15_ := MK ((by rw [hg]; exact Nat.ne_of_lt (blk_lt (by (with_reducible repeat (first | refine bN ?_ _ | refine bD ?_ | refine bA ?_ _)); exact BK688.out)) : gb688 ≠ gb704)); have n16_ := MK ((by rw [hg]; exact Nat.ne_of_gt (blk_lt (by (with_reducible repeat (first | refine bN ?_ _ | refine bD ?_ | refine bA ?_ _)); exact BK688.out)) : gb704 ≠ gb688)); have n17_ := MK ((by rw [hg]; exact Nat.ne_of_lt (blk_lt (by (with_reducible repeat (first | refine bN ?_ _ | refine bD ?_ | refine bA ?_ _)); exact BK695.out)) : gb695 ≠ gb704)); have n18_ := MK ((by rw [hg]; exact Nat.ne_of_gt (blk_lt (by (with_reducible repeat (first | refine bN ?_ _ | refine bD ?_ | refine bA ?_ _)); exact BK695.out)) : gb704 ≠ gb695)); clear BK679; clear BK680; clear BK681; clear BK688; clear BK695; clear HB; have BK679 := n0_; have BK680 := n1_; have BK681 := n2_; have BK688 := n3_; have BK695 := n4_; have HB := n5_; have BK704 := n6_; have GW704 := n7_; have GE704 := n8_; have NB679_704 := n9_; have NB704_679 := n10_; have NB680_704 := n11_; have NB704_680 := n12_; have NB681_704 := n13_; have NB704_681 := n14_; have NB688_704 := n15_; have NB704_688 := n16_; have NB695_704 := n17_; have NB704_695 := n18_; clear n0_ n1_ n2_ n3_ n4_ n5_ n6_ n7_ n8_ n9_ n10_ n11_ n12_ n13_ n14_ n15_ n16_ n17_ n18_; clear hb hbox hg; have hnb130 := NB704_679.out; have hnc130 := NB679_704.out; have hnb131 := NB704_680.out; have hnc131 := NB680_704.out; have hnb132 := NB704_681.out; have hnc132 := NB681_704.out; have hnb133 := NB704_688.out; have hnc133 := NB688_704.out; have hnb134 := NB704_695.out; have hnc134 := NB695_704.out; obtain ⟨hcz135_0, hcz135_1, hcz135_2, hcz135_3, hcz135_4, hcz135_5⟩ := bc6 BK704.out; obtain ⟨hfz135_0, hfz135_1, hfz135_2, hfz135_3, hfz135_4, hfz135_5⟩ := bf6 BK704.out; obtain ⟨hcz136_0, hcz136_1, hcz136_2, hcz136_3, hcz136_4⟩ := bc5 BK695.out; obtain ⟨hfz136_0, hfz136_1, hfz136_2, hfz136_3, hfz136_4⟩ := bf5 BK695.out))
          go_ret
          exact ⟨by first | rfl | (simp [errW_none, errW_some] <;> rfl) | (simp [*, errW_none, errW_some] <;> rfl), by repeat (first | (with_reducible first | exact HB.out | apply lA | apply lN | apply lD | refine lS ?_ GE679.out | refine lS ?_ GE680.out | refine lS ?_ GE681.out | refine lS ?_ GE688.out | refine lS ?_ GE695.out | refine lS ?_ GE704.out) | exact HB.out)⟩
       ·rw [if_neg c61] at H
        have c61b0 : ((Int.tmod t696 3) == 0) = false := beq_eq_false_iff_ne.mpr c61
        have c61b1 : ((Int.tmod t696 3) != 0) = true := bne_iff_ne.mpr c61
        (first | rw [c61b0] | (simp only [i64_w, i32_w]; rw [c61b0]) | rw [c61b1] | skip)
        by_cases c137 : (Int.tmod t696 3) = 1
        ·rw [if_pos c137] at H
         have c137b0 : ((Int.tmod t696 3) == 1) = true := beq_iff_eq.mpr c137
         have c137b1 : ((Int.tmod t696 3) != 1) = false := bne_eq_false_iff_eq.mpr c137
         clear c137
         replace H := Option.bind_eq_some_iff.mp H
         obtain ⟨t705, A1380, H⟩ := H
         replace H : (if (wrap64 (t675 + 1)) = 0 then (none) else ((impl_Tick.f kj7 t667 t668 t669 t670 t671 t672 t673 t674 (wrap64 (t675 - (Int.tmod t705 (wrap64 (t675 + 1))))) t676 t677 t678).bind fun bt706 => (if bt706.1 = true then (some (bt706.2.1 != 3)) else (if t676 > 100000000 then (some true) else (some false))))) = some r := H
         have A138 := MK A1380
         clear A1380
         by_cases c139 : (wrap64 (t675 + 1)) = 0
         ·rw [if_pos c139] at H
          exact absurd H (by simp)
         ·rw [if_neg c139] at H
          have c139b0 : ((wrap64 (t675 + 1)) == 0) = false := beq_eq_false_iff_ne.mpr c139
          have c139b1 : ((wrap64 (t675 + 1)) != 0) = true := bne_iff_ne.mpr c139
          replace H := Option.bind_eq_some_iff.mp H
          obtain ⟨⟨t706, t707, t708, t709, t710, t711⟩, A1400, H⟩ := H
          replace H : (if t706 = true then (some (t707 != 3)) else (if t676 > 100000000 then (some true) else (some false))) = some r := H
          have A140 := MK A1400
          clear A1400
          by_cases c141 : t706 = true
          ·subst c141
           have H1 : (some (t707 != 3)) = some r := by rw [if_pos rfl] at H; exact H
           clear H
           have H := H1
           clear H1
           obtain rfl := Option.some.inj H
           try go_wp2
           have n0_ : Aside0 ((((((w55.setCell ⟨gb695, 0, none⟩ (.int .i64 t674)).setCell ⟨gb695, 1, none⟩ (.int .i64 t675)).setCell ⟨gb695, 2, none⟩ (.int .i64 t676)).setCell ⟨gb695, 3, none⟩ (.int .i64 t677)).setCell ⟨gb695, 4, none⟩ (.bool t678)).heap[gb679]? = some (.cells #[.int .i64 t667, .int .i64 t668, .int .i64 t669, .int .i64 t670, .int .i64 t671] 24 (0, 0))) := ⟨by refine blk_far ?_ NB679_695.out _; refine blk_far ?_ NB679_695.out _; refine blk_far ?_ NB679_695.out _; refine blk_far ?_ NB679_695.out _; refine blk_far ?_ NB679_695.out _; (with_reducible repeat (first | refine bN ?_ _ | refine bD ?_ | refine bA ?_ _)); exact BK679.out⟩
           have n1_ : Aside0 ((((((w55.setCell ⟨gb695, 0, none⟩ (.int .i64 t674)).setCell ⟨gb695, 1, none⟩ (.int .i64 t675)).setCell ⟨gb695, 2, none⟩ (.int .i64 t676)).setCell ⟨gb695, 3, none⟩ (.int .i64 t677)).setCell ⟨gb695, 4, none⟩ (.bool t678)).heap[gb680]? = some (.cells #[.int .i64 t672, .int .i64 t673] 31 (0, 0))) := ⟨by refine blk_far ?_ NB680_695.out _; refine blk_far ?_ NB680_695.out _; refine blk_far ?_ NB680_695.out _; refine blk_far ?_ NB680_695.out _; refine blk_far ?_ NB680_695.out _; (with_reducible repeat (first | refine bN ?_ _ | refine bD ?_ | refine bA ?_ _)); exact BK680.out⟩
           have n2_ : Aside0 ((((((w55.setCell ⟨gb695, 0, none⟩ (.int .i64 t674)).setCell ⟨gb695, 1, none⟩ (.int .i64 t675)).setCell ⟨gb695, 2, none⟩ (.int .i64 t676)).setCell ⟨gb695, 3, none⟩ (.int .i64 t677)).setCell ⟨gb695, 4, none⟩ (.bool t678)).heap[gb681]? = some (.cells #[.int .i64 t674, .int .i64 t675, .int .i64 t676, .int .i64 t677, .bool t678] 44 (0, 0))) := ⟨by refine blk_far ?_ NB681_695.out _; refine blk_far ?_ NB681_695.out _; refine blk_far ?_ NB681_695.out _; refine blk_far ?_ NB681_695.out _; refine blk_far ?_ NB681_695.out _; (with_reducible repeat (first | refine bN ?_ _ | refine bD ?_ | refine bA ?_ _)); exact BK681.out⟩
           have n3_ : Aside0 ((((((w55.setCell ⟨gb695, 0, none⟩ (.int .i64 t674)).setCell ⟨gb695, 1, none⟩ (.int .i64 t675)).setCell ⟨gb695, 2, none⟩ (.int .i64 t676)).setCell ⟨gb695, 3, none⟩ (.int .i64 t677)).setCell ⟨gb695, 4, none⟩ (.bool t678)).heap[gb688]? = some (.cells #[.bool t682, .int .i64 t683, .int .i64 t684, .int .i64 t685, .bool t686, .bool t687] 33 (0, 0))) := ⟨by refine blk_far ?_ NB688_695.out _; refine blk_far ?_ NB688_695.out _; refine blk_far ?_ NB688_695.out _; refine blk_far ?_ NB688_695.out _; refine blk_far ?_ NB688_695.out _; (with_reducible repeat (first | refine bN ?_ _ | refine bD ?_ | refine bA ?_ _)); exact BK688.out⟩
           have n4_ : Aside0 ((((((w55.setCell ⟨gb695, 0, none⟩ (.int .i64 t674)).setCell ⟨gb695, 1, none⟩ (.int .i64 t675)).setCell ⟨gb695, 2, none⟩ (.int .i64 t676)).setCell ⟨gb695, 3, none⟩ (.int .i64 t677)).setCell ⟨gb695, 4, none⟩ (.bool t678)).heap[gb695]? = some (.cells #[.int .i64 t674, .int .i64 t675, .int .i64 t676, .int .i64 t677, .bool t678] 44 (0, 0))) := ⟨by refine blk_put (cs := #[.int .i64 t674, .int .i64 t675, .int .i64 t676, .int .i64 t677, .bool false]) ?_ 4 _ rfl; refine blk_put (cs := #[.int .i64 t674, .int .i64 t675, .int .i64 t676, .int .i64 0, .bool false]) ?_ 3 _ rfl; refine blk_put (cs := #[.int .i64 t674, .int .i64 t675, .int .i64 0, .int .i64 0, .bool false]) ?_ 2 _ rfl; refine blk_put (cs := #[.int .i64 t674, .int .i64 0, .int .i64 0, .int .i64 0, .bool false]) ?_ 1 _ rfl; refine blk_put (cs := #[.int .i64 0, .int .i64 0, .int .i64 0, .int .i64 0, .bool false]) ?_ 0 _ rfl; (with_reducible repeat (first | refine bN ?_ _ | refine bD ?_ | refine bA ?_ _)); exact BK695.out⟩
           have n5_ : Aside0 (Below w.heap.size w (((((w55.setCell ⟨gb695, 0, none⟩ (.int .i64 t674)).setCell ⟨gb695, 1, none⟩ (.int .i64 t675)).setCell ⟨gb695, 2, none⟩ (.int .i64 t676)).setCell ⟨gb695, 3, none⟩ (.int .i64 t677)).setCell ⟨gb695, 4, none⟩ (.bool t678))) := ⟨by repeat (first | (with_reducible first | exact HB.out | apply lA | apply lN | apply lD | refine lS ?_ GE679.out | refine lS ?_ GE680.out | refine lS ?_ GE681.out | refine lS ?_ GE688.out | refine lS ?_ GE695.out) | exact HB.out)⟩
           (try clear BK679)
           (try clear BK680)
           (try clear BK681)
           (try clear BK688)
           (try clear BK695)
           (try clear HB)
           generalize (((((w55.setCell ⟨gb695, 0, none⟩ (.int .i64 t674)).setCell ⟨gb695, 1, none⟩ (.int .i64 t675)).setCell ⟨gb695, 2, none⟩ (.int .i64 t676)).setCell ⟨gb695, 3, none⟩ (.int .i64 t677)).setCell ⟨gb695, 4, none⟩ (.bool t678)) = w142 at n0_ n1_ n2_ n3_ n4_ n5_ ⊢
           have n0_ := MK (bN n0_.out nd)
           have n1_ := MK (bN n1_.out nd)
           have n2_ := MK (bN n2_.out nd)
           have n3_ := MK (bN n3_.out nd)
           have n4_ := MK (bN n4_.out nd)
           have n5_ := MK (lN n5_.out nd)
           generalize w142.drewN nd = w142 at n0_ n1_ n2_ n3_ n4_ n5_ ⊢
           have BK679 := n0_
           have BK680 := n1_
           have BK681 := n2_
           have BK688 := n3_
           have BK695 := n4_
           have HB := n5_
           clear n0_ n1_ n2_ n3_ n4_ n5_
           have n0_ := MK (bD BK679.out)
           have n1_ := MK (bD BK680.out)
           have n2_ := MK (bD BK681.out)
           have n3_ := MK (bD BK688.out)
           have n4_ := MK (bD BK695.out)
           have n5_ := MK (lD HB.out)
           clear BK679
           clear BK680
           clear BK681
           clear BK688
           clear BK695
           clear HB
           have BK679 := n0_
           have BK680 := n1_
           have BK681 := n2_
           have BK688 := n3_
           have BK695 := n4_
           have HB := n5_
           clear n0_ n1_ n2_ n3_ n4_ n5_
           refine start_ (n := 11) (S := fun w' => w'.cell? ⟨gb695, 0, none⟩ = some (.int .i64 t674) ∧ w'.cell? ⟨gb695, 1, none⟩ = some (.int .i64 t675) ∧ w'.cell? ⟨gb695, 2, none⟩ = some (.int .i64 t676) ∧ w'.cell? ⟨gb695, 3, none⟩ = some (.int .i64 t677) ∧ w'.cell? ⟨gb695, 4, none⟩ = some (.bool t678) ∧ w'.cell? ⟨gb681, 0, none⟩ = some (.int .i64 t674) ∧ w'.cell? ⟨gb681, 1, none⟩ = some (.int .i64 t675) ∧ w'.cell? ⟨gb681, 2, none⟩ = some (.int .i64 t676) ∧ w'.cell? ⟨gb681, 3, none⟩ = some (.int .i64 t677) ∧ w'.cell? ⟨gb681, 4, none⟩ = some (.bool t678)) (ds := [10]) #[false, false, false, false, false, false, false, false, false, false, false] (by kernel_rfl) rfl rfl ⟨(blk_cell BK695.out 0).trans rfl, (blk_cell BK695.out 1).trans rfl, (blk_cell BK695.out 2).trans rfl, (blk_cell BK695.out 3).trans rfl, (blk_cell BK695.out 4).trans rfl, (blk_cell BK681.out 0).trans rfl, (blk_cell BK681.out 1).trans rfl, (blk_cell BK681.out 2).trans rfl, (blk_cell BK681.out 3).trans rfl, (blk_cell BK681.out 4).trans rfl⟩ (fun hHeld => ?_); refine with_tabW laws_FnLonger.tab13 laws_FnLonger.bits13 (fun HT_ HW_ => ?_)
           generalize w142.drew = w143 at BK679 BK680 BK681 BK688 BK695 HB hHeld ⊢
           refine pure_ (i := 0) (N := some 73) (v := ?_) (a' := ?_) #[true, false, false, false, false, false, false, false, false, false, false] rfl rfl (any_of HT_.out (by kernel_rfl)) (fun _ _ _ h => h) (Or.inl ⟨by rfl, ?_⟩) ?_ ?_
           rotate_left
           ·intro w'; go_simp; with_reducible rfl
           rotate_left
           ·simp only [Act.put, List.setIfInBounds_toArray, List.set_cons_zero, List.set_cons_succ, i64_w, i32_w]; rfl
           refine pure_ (i := 2) (N := some 75) (v := ?_) (a' := ?_) #[true, false, true, false, false, false, false, false, false, false, false] rfl rfl (any_of HT_.out (by kernel_rfl)) (fun _ _ _ h => h) (Or.inl ⟨by rfl, ?_⟩) ?_ ?_
           rotate_left
           ·intro w'; go_simp; with_reducible rfl
           rotate_left
           ·simp only [Act.put, List.setIfInBounds_toArray, List.set_cons_zero, List.set_cons_succ, i64_w, i32_w]; rfl
           refine pure_ (i := 4) (N := some 77) (v := ?_) (a' := ?_) #[true, false, true, false, true, false, false, false, false, false, false] rfl rfl (any_of HT_.out (by kernel_rfl)) (fun _ _ _ h => h) (Or.inl ⟨by rfl, ?_⟩) ?_ ?_
           rotate_left
           ·intro w'; go_simp; with_reducible rfl
           rotate_left
           ·simp only [Act.put, List.setIfInBounds_toArray, List.set_cons_zero, List.set_cons_succ, i64_w, i32_w]; rfl
           refine take_ (i := 1) (N := some 74) (v := ?_) (a' := ?_) #[true, true, true, false, true, false, false, false, false, false, false] rfl rfl (take_ofW HT_.out HW_.out (by kernel_rfl)) (fun _ _ _ h => h) (Or.inl ⟨by rfl, ?_⟩) hHeld ?_ ?_
           rotate_left
           ·rintro w' ⟨s0, s1, s2, s3, s4, s5, s6, s7, s8, s9⟩; go_simp; with_reducible rfl
           rotate_left
           ·simp only [Act.put, List.setIfInBounds_toArray, List.set_cons_zero, List.set_cons_succ, i64_w, i32_w]; rfl
           refine take_ (i := 5) (N := some 78) (v := ?_) (a' := ?_) #[true, true, true, false, true, true, false, false, false, false, false] rfl rfl (take_ofW HT_.out HW_.out (by kernel_rfl)) (fun _ _ _ h => h) (Or.inl ⟨by rfl, ?_⟩) hHeld ?_ ?_
           rotate_left
           ·rintro w' ⟨s0, s1, s2, s3, s4, s5, s6, s7, s8, s9⟩; go_simp; with_reducible rfl
           rotate_left
           ·simp only [Act.put, List.setIfInBounds_toArray, List.set_cons_zero, List.set_cons_succ, i64_w, i32_w]; rfl
           refine pure_ (i := 6) (N := some 79) (v := ?_) (a' := ?_) #[true, true, true, false, true, true, true, false, false, false, false] rfl rfl (any_of HT_.out (by kernel_rfl)) (fun _ _ _ h => h) (Or.inl ⟨by rfl, ?_⟩) ?_ ?_
           rotate_left
           ·intro w'; go_simp; with_reducible rfl
           rotate_left
           ·simp only [Act.put, List.setIfInBounds_toArray, List.set_cons_zero, List.set_cons_succ, i64_w, i32_w]; rfl
           refine one_ (i := 3) (N := some 76) #[true, true, true, true, true, true, true, false, false, false, false] rfl rfl (one_of HT_.out (by kernel_rfl)) (by decide) (fun K hK => ?_)
           refine goes_ Try.func11 (by kernel_rfl) rfl #[.slice A1 l1.length c1, .int .i64 1] (by rfl) rfl rfl (by (try simp only [List.map_toArray, List.map_cons, List.map_nil]); first | done | rfl | (simp only [List.length_drop, List.length_take]; rfl)) ?_
           with_reducible refine (laws_wByte.calls _ _ l1 1 t705 _ ?side1 ?side2 A138.out).mono ?_
           (case side1 => repeat (first | exact (Kd.C_below HR1.out HB.out) | (with_reducible refine Kd.C_alloc ?_ _) | (with_reducible refine Kd.C_drewN ?_ _) | (with_reducible refine Kd.C_drew ?_)))
           (case side2 => exact HC1.out)
           rintro e w' ⟨rfl, ⟨nd, rfl⟩⟩
           refine ⟨_, rfl, ?_⟩
           refine hK.out _ _ ⟨(blk_cell BK695.out 0).trans rfl, (blk_cell BK695.out 1).trans rfl, (blk_cell BK695.out 2).trans rfl, (blk_cell BK695.out 3).trans rfl, (blk_cell BK695.out 4).trans rfl, (blk_cell BK681.out 0).trans rfl, (blk_cell BK681.out 1).trans rfl, (blk_cell BK681.out 2).trans rfl, (blk_cell BK681.out 3).trans rfl, (blk_cell BK681.out 4).trans rfl⟩ (fun hHeld => ?_)
           clear hK K
           refine norm_ (a' := ?_) ?_ ?_
           rotate_left
           ·show Act.put _ (some 76) _ = _; simp only [Act.put, List.setIfInBounds_toArray, List.set_cons_zero, List.set_cons_succ, i64_w, i32_w]; rfl
           refine pure_ (i := 7) (N := some 80) (v := ?_) (a' := ?_) #[true, true, true, true, true, true, true, true, false, false, false] rfl rfl (any_of HT_.out (by kernel_rfl)) (fun _ _ _ h => h) (Or.inl ⟨by rfl, ?_⟩) ?_ ?_
           rotate_left
           ·intro w'; go_simp; with_reducible rfl
           rotate_left
           ·simp only [Act.put, List.setIfInBounds_toArray, List.set_cons_zero, List.set_cons_succ, i64_w, i32_w]; rfl
           refine pure_ (i := 8) (N := some 81) (v := ?_) (a' := ?_) #[true, true, true, true, true, true, true, true, true, false, false] rfl rfl (any_of HT_.out (by kernel_rfl)) (fun _ _ _ h => h) (Or.inl ⟨by rfl, ?_⟩) ?_ ?_
           rotate_left
           ·intro w'; go_simp; with_reducible rfl
           rotate_left
           ·simp only [Act.put, List.setIfInBounds_toArray, List.set_cons_zero, List.set_cons_succ, i64_w, i32_w]; rfl
           refine pure_ (i := 9) (N := some 82) (v := ?_) (a' := ?_) #[true, true, true, true, true, true, true, true, true, true, false] rfl rfl (any_of HT_.out (by kernel_rfl)) (fun _ _ _ h => h) (Or.inl ⟨by rfl, ?_⟩) ?_ ?_
           rotate_left
           ·intro w'; go_simp; with_reducible rfl
           rotate_left
           ·simp only [Act.put, List.setIfInBounds_toArray, List.set_cons_zero, List.set_cons_succ, i64_w, i32_w]; rfl
           refine last_ (i := 10) (N := none) #[true, true, true, true, true, true, true, true, true, true, true] rfl rfl (one_of HT_.out (by kernel_rfl)) (by decide) (fun K hK => ?_)
           have hs144 : w143.cell? ⟨gb695, 1, none⟩ = some (.int .i64 t675) := (blk_cell BK695.out 1).trans rfl
           have hfs144 := blk_frozen BK695.out 1
           have hns144_0 := NB679_695.out
           have hns144_1 := NB680_695.out
           have hns144_2 := NB681_695.out
           have hns144_3 := NB688_695.out
           have hms144_0 := NB695_679.out
           have hms144_1 := NB695_680.out
           have hms144_2 := NB695_681.out
           have hms144_3 := NB695_688.out
           refine skip_ (w1 := ?_) (by rfl) rfl ?_ ?_
           rotate_left
           ·go_simp
            rfl
           refine hK.out _ _ ?_
           clear hK K
           refine done_ (done_of HT_.out (by kernel_rfl)) ?_
           have hnb145 := NB679_680.out
           have hnc145 := NB680_679.out
           have hnb146 := NB679_681.out
           have hnc146 := NB681_679.out
           have hnb147 := NB679_688.out
           have hnc147 := NB688_679.out
           have hnb148 := NB679_695.out
           have hnc148 := NB695_679.out
           obtain ⟨hcz149_0, hcz149_1, hcz149_2, hcz149_3, hcz149_4⟩ := bc5 BK679.out
           obtain ⟨hfz149_0, hfz149_1, hfz149_2, hfz149_3, hfz149_4⟩ := bf5 BK679.out
           have hnb150 := NB680_681.out
           have hnc150 := NB681_680.out
           have hnb151 := NB680_688.out
           have hnc151 := NB688_680.out
           have hnb152 := NB680_695.out
           have hnc152 := NB695_680.out
           obtain ⟨hcz153_0, hcz153_1⟩ := bc2 BK680.out
           obtain ⟨hfz153_0, hfz153_1⟩ := bf2 BK680.out
           have hnb154 := NB695_681.out
           have hnc154 := NB681_695.out
           have hnb155 := NB695_688.out
           have hnc155 := NB688_695.out
           obtain ⟨hcz156_0, hcz156_1, hcz156_2, hcz156_3, hcz156_4⟩ := bc5 BK695.out
           obtain ⟨hfz156_0, hfz156_1, hfz156_2, hfz156_3, hfz156_4⟩ := bf5 BK695.out
           try go_wp2_with (first | ((with_reducible refine gate_callee (f := 21) rfl ?_); refine goesL_ (some 86) rfl rfl Try.func21 (by kernel_rfl) rfl #[.agg #[.int .i64 t667, .int .i64 t668, .int .i64 t669, .int .i64 t670, .int .i64 t671], .agg #[.int .i64 t672, .int .i64 t673], .agg #[.int .i64 t674, .int .i64 (wrap64 (t675 - (Int.tmod t705 (wrap64 (t675 + 1))))), .int .i64 t676, .int .i64 t677, .bool t678]] rfl (by (try simp only [List.map_toArray, List.map_cons, List.map_nil]); first | done | rfl | (simp only [List.length_drop, List.length_take]; rfl)) ?_; (with_reducible refine (impl_Tick.calls kj7 t667 t668 t669 t670 t671 t672 t673 t674 (wrap64 (t675 - (Int.tmod t705 (wrap64 (t675 + 1))))) t676 t677 t678 true t707 t708 t709 t710 t711 _ A140.out).mono ?_); rintro e w157 ⟨rfl, hb⟩; refine ⟨_, rfl, ?_⟩; have n0_ := MK (blk_below (g := gb679) (o := .cells #[.int .i64 t667, .int .i64 t668, .int .i64 t669, .int .i64 t670, .int .i64 t671] 24 (0, 0)) (by (with_reducible repeat (first | refine bN ?_ _ | refine bD ?_ | refine bA ?_ _)); refine blk_far ?_ NB679_695.out _; (with_reducible repeat (first | refine bN ?_ _ | refine bD ?_ | refine bA ?_ _)); exact BK679.out) hb); have n1_ := MK (blk_below (g := gb680) (o := .cells #[.int .i64 t672, .int .i64 t673] 31 (0, 0)) (by (with_reducible repeat (first | refine bN ?_ _ | refine bD ?_ | refine bA ?_ _)); refine blk_far ?_ NB680_695.out _; (with_reducible repeat (first | refine bN ?_ _ | refine bD ?_ | refine bA ?_ _)); exact BK680.out) hb); have n2_ := MK (blk_below (g := gb681) (o := .cells #[.int .i64 t674, .int .i64 t675, .int .i64 t676, .int .i64 t677, .bool t678] 44 (0, 0)) (by (with_reducible repeat (first | refine bN ?_ _ | refine bD ?_ | refine bA ?_ _)); refine blk_far ?_ NB681_695.out _; (with_reducible repeat (first | refine bN ?_ _ | refine bD ?_ | refine bA ?_ _)); exact BK681.out) hb); have n3_ := MK (blk_below (g := gb688) (o := .cells #[.bool t682, .int .i64 t683, .int .i64 t684, .int .i64 t685, .bool t686, .bool t687] 33 (0, 0)) (by (with_reducible repeat (first | refine bN ?_ _ | refine bD ?_ | refine bA ?_ _)); refine blk_far ?_ NB688_695.out _; (with_reducible repeat (first | refine bN ?_ _ | refine bD ?_ | refine bA ?_ _)); exact BK688.out) hb); have n4_ := MK (blk_below (g := gb695) (o := .cells #[.int .i64 t674, .int .i64 (wrap64 (t675 - (Int.tmod t705 (wrap64 (t675 + 1))))), .int .i64 t676, .int .i64 t677, .bool t678] 44 (0, 0)) (by (with_reducible repeat (first | refine bN ?_ _ | refine bD ?_ | refine bA ?_ _)); refine blk_put (cs := #[.int .i64 t674, .int .i64 t675, .int .i64 t676, .int .i64 t677, .bool t678]) ?_ 1 _ rfl; (with_reducible repeat (first | refine bN ?_ _ | refine bD ?_ | refine bA ?_ _)); exact BK695.out) hb); have n5_ := MK (below_step (by repeat (first | (with_reducible first | exact HB.out | apply lA | apply lN | apply lD | refine lS ?_ GE679.out | refine lS ?_ GE680.out | refine lS ?_ GE681.out | refine lS ?_ GE688.out | refine lS ?_ GE695.out) | exact HB.out)) hb); clear BK679; clear BK680; clear BK681; clear BK688; clear BK695; clear HB; have BK679 := n0_; have BK680 := n1_; have BK681 := n2_; have BK688 := n3_; have BK695 := n4_; have HB := n5_; clear n0_ n1_ n2_ n3_ n4_ n5_; (try clear hb); (try clear hb2); (try clear hk); (try clear hi)) | ((with_reducible refine gate_dst (N := 10) rfl ?_); (try (refine gate_guard (by rfl) ?_; dsimp only)); refine box_event ?hg (N := 10) ?hd (cs := #[.bool false, .int .i64 0, .int .i64 0, .int .i64 0, .bool false, .bool false]) (t := 33) ?hr ?_; (case hd => rfl); (case hg => rfl); (case hr => first | (go_simp; done) | (go_simp; rfl)); intro gb712 hg w158 hbox hb; have n0_ := MK (blk_below (by (with_reducible repeat (first | refine bN ?_ _ | refine bD ?_ | refine bA ?_ _)); exact BK679.out) hb); have n1_ := MK (blk_below (by (with_reducible repeat (first | refine bN ?_ _ | refine bD ?_ | refine bA ?_ _)); exact BK680.out) hb); have n2_ := MK (blk_below (by (with_reducible repeat (first | refine bN ?_ _ | refine bD ?_ | refine bA ?_ _)); exact BK681.out) hb); have n3_ := MK (blk_below (by (with_reducible repeat (first | refine bN ?_ _ | refine bD ?_ | refine bA ?_ _)); exact BK688.out) hb); have n4_ := MK (blk_below (by (with_reducible repeat (first | refine bN ?_ _ | refine bD ?_ | refine bA ?_ _)); exact BK695.out) hb); have n5_ := MK (below_step (by repeat (first | (with_reducible first | exact HB.out | apply lA | apply lN | apply lD | refine lS ?_ GE679.out | refine lS ?_ GE680.out | refine lS ?_ GE681.out | refine lS ?_ GE688.out | refine lS ?_ GE695.out) | exact HB.out)) hb); have n6_ := MK (hbox); have n7_ := MK ((by rw [hg]; exact (below_size (by repeat (first | (with_reducible first | exact HB.out | apply lA | apply lN | apply lD | refine lS ?_ GE679.out | refine lS ?_ GE680.out | refine lS ?_ GE681.out | refine lS ?_ GE688.out | refine lS ?_ GE695.out) | exact HB.out))) : w.heap.size ≤ gb712)); have n8_ := MK ((by rw [hg]; exact (below_size (by repeat (first | (with_reducible first | exact HB.out | apply lA | apply lN | apply lD | refine lS ?_ GE679.out | refine lS ?_ GE680.out | refine lS ?_ GE681.out | refine lS ?_ GE688.out | refine lS ?_ GE695.out) | exact HB.out))) : w.heap.size ≤ gb712)); have n9_ := MK ((by rw [hg]; exact Nat.ne_of_lt (blk_lt (by (with_reducible repeat (first | refine bN ?_ _ | refine bD ?_ | refine bA ?_ _)); exact BK679.out)) : gb679 ≠ gb712)); have n10_ := MK ((by rw [hg]; exact Nat.ne_of_gt (blk_lt (by (with_reducible repeat (first | refine bN ?_ _ | refine bD ?_ | refine bA ?_ _)); exact BK679.out)) : gb712 ≠ gb679)); have n11_ := MK ((by rw [hg]; exact Nat.ne_of_lt (blk_lt (by (with_reducible repeat (first | refine bN ?_ _ | refine bD ?_ | refine bA ?_ _)); exact BK680.out)) : gb680 ≠ gb712)); have n12_ := MK ((by rw [hg]; exact Nat.ne_of_gt (blk_lt (by (with_reducible repeat (first | refine bN ?_ _ | refine bD ?_ | refine bA ?_ _)); exact BK680.out)) : gb712 ≠ gb680)); have n13_ := MK ((by rw [hg]; exact Nat.ne_of_lt (blk_lt (by (with_reducible repeat (first | refine bN ?_ _ | refine bD ?_ | refine bA ?_ _)); exact BK681.out)) : gb681 ≠ gb712)); have n14_ := MK ((by rw [hg]; exact Nat.ne_of_gt (blk_lt (by (with_reducible repeat (first | refine bN ?_ _ | refine bD ?_ | refine bA ?_ _)); exact BK681.out)) : gb712 ≠ gb681)); have n15_ := MK ((by rw [hg]; exact Nat.ne_of_lt (blk_lt (by (with_reducible repeat (first | refine bN ?_ _ | refine bD ?_ | refine bA ?_ _)); exact BK688.out)) : gb688 ≠ gb712)); have n16_ := MK ((by rw [hg]; exact Nat.ne_of_gt (blk_lt (by (with_reducible repeat (first | refine bN ?_ _ | refine bD ?_ | refine bA ?_ _)); exact BK688.out)) : gb712 ≠ gb688)); have n17_ := MK ((by rw [hg]; exact Nat.ne_of_lt (blk_lt (by (with_reducible repeat (first | refine bN ?_ _ | refine bD ?_ | refine bA ?_ _)); exact BK695.out)) : gb695 ≠ gb712)); have n18_ := MK ((by rw [hg]; exact Nat.ne_of_gt (blk_lt (by (with_reducible repeat (first | refine bN ?_ _ | refine bD ?_ | refine bA ?_ _)); exact BK695.out)) : gb712 ≠ gb695)); clear BK679; clear BK680; clear BK681; clear BK688; clear BK695; clear HB; have BK679 := n0_; have BK680 := n1_; have BK681 := n2_; have BK688 := n3_; have BK695 := n4_; have HB := n5_; have BK712 := n6_; have GW712 := n7_; have GE712 := n8_; have NB679_712 := n9_; have NB712_679 := n10_; have NB680_712 := n11_; have NB712_680 := n12_; have NB681_712 := n13_; have NB712_681 := n14_; have NB688_712 := n15_; have NB712_688 := n16_; have NB695_712 := n17_; have NB712_695 := n18_; clear n0_ n1_ n2_ n3_ n4_ n5_ n6_ n7_ n8_ n9_ n10_ n11_ n12_ n13_ n14_ n15_ n16_ n17_ n18_; clear hb hbox hg; have hnb159 := NB712_679.out; have hnc159 := NB679_712.out; have hnb160 := NB712_680.out; have hnc160 := NB680_712.out; have hnb161 := NB712_681.out; have hnc161 := NB681_712.out; have hnb162 := NB712_688.out; have hnc162 := NB688_712.out; have hnb163 := NB712_695.out; have hnc163 := NB695_712.out; obtain ⟨hcz164_0, hcz164_1, hcz164_2, hcz164_3, hcz164_4, hcz164_5⟩ := bc6 BK712.out; obtain ⟨hfz164_0, hfz164_1, hfz164_2, hfz164_3, hfz164_4, hfz164_5⟩ := bf6 BK712.out))
           go_ret
           exact ⟨by first | rfl | (simp [errW_none, errW_some] <;> rfl) | (simp [*, errW_none, errW_some] <;> rfl), by repeat (first | (with_reducible first | exact HB.out | apply lA | apply lN | apply lD | refine lS ?_ GE679.out | refine lS ?_ GE680.out | refine lS ?_ GE681.out | refine lS ?_ GE688.out | refine lS ?_ GE695.out | refine lS ?_ GE712.out) | exact HB.out)⟩
          ·replace c141 := Bool.eq_false_iff.mpr c141
           subst c141
           have H1 : (if t676 > 100000000 then (some true) else (some false)) = some r := by rw [if_neg (show ¬ (false = true) by decide)] at H; exact H
           clear H
           have H := H1
           clear H1
           by_cases c165 : t676 > 100000000
           ·rw [if_pos c165] at H
            have c165b0 : decide (100000000 < t676) = true := decide_eq_true c165
            clear c165
            obtain rfl := Option.some.inj H
            try go_wp2
            have n0_ : Aside0 ((((((w55.setCell ⟨gb695, 0, none⟩ (.int .i64 t674)).setCell ⟨gb695, 1, none⟩ (.int .i64 t675)).setCell ⟨gb695, 2, none⟩ (.int .i64 t676)).setCell ⟨gb695, 3, none⟩ (.int .i64 t677)).setCell ⟨gb695, 4, none⟩ (.bool t678)).heap[gb679]? = some (.cells #[.int .i64 t667, .int .i64 t668, .int .i64 t669, .int .i64 t670, .int .i64 t671] 24 (0, 0))) := ⟨by refine blk_far ?_ NB679_695.out _; refine blk_far ?_ NB679_695.out _; refine blk_far ?_ NB679_695.out _; refine blk_far ?_ NB679_695.out _; refine blk_far ?_ NB679_695.out _; (with_reducible repeat (first | refine bN ?_ _ | refine bD ?_ | refine bA ?_ _)); exact BK679.out⟩
            have n1_ : Aside0 ((((((w55.setCell ⟨gb695, 0, none⟩ (.int .i64 t674)).setCell ⟨gb695, 1, none⟩ (.int .i64 t675)).setCell ⟨gb695, 2, none⟩ (.int .i64 t676)).setCell ⟨gb695, 3, none⟩ (.int .i64 t677)).setCell ⟨gb695, 4, none⟩ (.bool t678)).heap[gb680]? = some (.cells #[.int .i64 t672, .int .i64 t673] 31 (0, 0))) := ⟨by refine blk_far ?_ NB680_695.out _; refine blk_far ?_ NB680_695.out _; refine blk_far ?_ NB680_695.out _; refine blk_far ?_ NB680_695.out _; refine blk_far ?_ NB680_695.out _; (with_reducible repeat (first | refine bN ?_ _ | refine bD ?_ | refine bA ?_ _)); exact BK680.out⟩
            have n2_ : Aside0 ((((((w55.setCell ⟨gb695, 0, none⟩ (.int .i64 t674)).setCell ⟨gb695, 1, none⟩ (.int .i64 t675)).setCell ⟨gb695, 2, none⟩ (.int .i64 t676)).setCell ⟨gb695, 3, none⟩ (.int .i64 t677)).setCell ⟨gb695, 4, none⟩ (.bool t678)).heap[gb681]? = some (.cells #[.int .i64 t674, .int .i64 t675, .int .i64 t676, .int .i64 t677, .bool t678] 44 (0, 0))) := ⟨by refine blk_far ?_ NB681_695.out _; refine blk_far ?_ NB681_695.out _; refine blk_far ?_ NB681_695.out _; refine blk_far ?_ NB681_695.out _; refine blk_far ?_ NB681_695.out _; (with_reducible repeat (first | refine bN ?_ _ | refine bD ?_ | refine bA ?_ _)); exact BK681.out⟩
            have n3_ : Aside0 ((((((w55.setCell ⟨gb695, 0, none⟩ (.int .i64 t674)).setCell ⟨gb695, 1, none⟩ (.int .i64 t675)).setCell ⟨gb695, 2, none⟩ (.int .i64 t676)).setCell ⟨gb695, 3, none⟩ (.int .i64 t677)).setCell ⟨gb695, 4, none⟩ (.bool t678)).heap[gb688]? = some (.cells #[.bool t682, .int .i64 t683, .int .i64 t684, .int .i64 t685, .bool t686, .bool t687] 33 (0, 0))) := ⟨by refine blk_far ?_ NB688_695.out _; refine blk_far ?_ NB688_695.out _; refine blk_far ?_ NB688_695.out _; refine blk_far ?_ NB688_695.out _; refine blk_far ?_ NB688_695.out _; (with_reducible repeat (first | refine bN ?_ _ | refine bD ?_ | refine bA ?_ _)); exact BK688.out⟩
            have n4_ : Aside0 ((((((w55.setCell ⟨gb695, 0, none⟩ (.int .i64 t674)).setCell ⟨gb695, 1, none⟩ (.int .i64 t675)).setCell ⟨gb695, 2, none⟩ (.int .i64 t676)).setCell ⟨gb695, 3, none⟩ (.int .i64 t677)).setCell ⟨gb695, 4, none⟩ (.bool t678)).heap[gb695]? = some (.cells #[.int .i64 t674, .int .i64 t675, .int .i64 t676, .int .i64 t677, .bool t678] 44 (0, 0))) := ⟨by refine blk_put (cs := #[.int .i64 t674, .int .i64 t675, .int .i64 t676, .int .i64 t677, .bool false]) ?_ 4 _ rfl; refine blk_put (cs := #[.int .i64 t674, .int .i64 t675, .int .i64 t676, .int .i64 0, .bool false]) ?_ 3 _ rfl; refine blk_put (cs := #[.int .i64 t674, .int .i64 t675, .int .i64 0, .int .i64 0, .bool false]) ?_ 2 _ rfl; refine blk_put (cs := #[.int .i64 t674, .int .i64 0, .int .i64 0, .int .i64 0, .bool false]) ?_ 1 _ rfl; refine blk_put (cs := #[.int .i64 0, .int .i64 0, .int .i64 0, .int .i64 0, .bool false]) ?_ 0 _ rfl; (with_reducible repeat (first | refine bN ?_ _ | refine bD ?_ | refine bA ?_ _)); exact BK695.out⟩
            have n5_ : Aside0 (Below w.heap.size w (((((w55.setCell ⟨gb695, 0, none⟩ (.int .i64 t674)).setCell ⟨gb695, 1, none⟩ (.int .i64 t675)).setCell ⟨gb695, 2, none⟩ (.int .i64 t676)).setCell ⟨gb695, 3, none⟩ (.int .i64 t677)).setCell ⟨gb695, 4, none⟩ (.bool t678))) := ⟨by repeat (first | (with_reducible first | exact HB.out | apply lA | apply lN | apply lD | refine lS ?_ GE679.out | refine lS ?_ GE680.out | refine lS ?_ GE681.out | refine lS ?_ GE688.out | refine lS ?_ GE695.out) | exact HB.out)⟩
            (try clear BK679)
            (try clear BK680)
            (try clear BK681)
            (try clear BK688)
            (try clear BK695)
            (try clear HB)
            generalize (((((w55.setCell ⟨gb695, 0, none⟩ (.int .i64 t674)).setCell ⟨gb695, 1, none⟩ (.int .i64 t675)).setCell ⟨gb695, 2, none⟩ (.int .i64 t676)).setCell ⟨gb695, 3, none⟩ (.int .i64 t677)).setCell ⟨gb695, 4, none⟩ (.bool t678)) = w166 at n0_ n1_ n2_ n3_ n4_ n5_ ⊢
            have n0_ := MK (bN n0_.out nd)
            have n1_ := MK (bN n1_.out nd)
            have n2_ := MK (bN n2_.out nd)
            have n3_ := MK (bN n3_.out nd)
            have n4_ := MK (bN n4_.out nd)
            have n5_ := MK (lN n5_.out nd)
            generalize w166.drewN nd = w166 at n0_ n1_ n2_ n3_ n4_ n5_ ⊢
            have BK679 := n0_
            have BK680 := n1_
            have BK681 := n2_
            have BK688 := n3_
            have BK695 := n4_
            have HB := n5_
            clear n0_ n1_ n2_ n3_ n4_ n5_
            have n0_ := MK (bD BK679.out)
            have n1_ := MK (bD BK680.out)
            have n2_ := MK (bD BK681.out)
            have n3_ := MK (bD BK688.out)
            have n4_ := MK (bD BK695.out)
            have n5_ := MK (lD HB.out)
            clear BK679
            clear BK680
            clear BK681
            clear BK688
            clear BK695
            clear HB
            have BK679 := n0_
            have BK680 := n1_
            have BK681 := n2_
            have BK688 := n3_
            have BK695 := n4_
            have HB := n5_
            clear n0_ n1_ n2_ n3_ n4_ n5_
            refine start_ (n := 11) (S := fun w' => w'.cell? ⟨gb695, 0, none⟩ = some (.int .i64 t674) ∧ w'.cell? ⟨gb695, 1, none⟩ = some (.int .i64 t675) ∧ w'.cell? ⟨gb695, 2, none⟩ = some (.int .i64 t676) ∧ w'.cell? ⟨gb695, 3, none⟩ = some (.int .i64 t677) ∧ w'.cell? ⟨gb695, 4, none⟩ = some (.bool t678) ∧ w'.cell? ⟨gb681, 0, none⟩ = some (.int .i64 t674) ∧ w'.cell? ⟨gb681, 1, none⟩ = some (.int .i64 t675) ∧ w'.cell? ⟨gb681, 2, none⟩ = some (.int .i64 t676) ∧ w'.cell? ⟨gb681, 3, none⟩ = some (.int .i64 t677) ∧ w'.cell? ⟨gb681, 4, none⟩ = some (.bool t678)) (ds := [10]) #[false, false, false, false, false, false, false, false, false, false, false] (by kernel_rfl) rfl rfl ⟨(blk_cell BK695.out 0).trans rfl, (blk_cell BK695.out 1).trans rfl, (blk_cell BK695.out 2).trans rfl, (blk_cell BK695.out 3).trans rfl, (blk_cell BK695.out 4).trans rfl, (blk_cell BK681.out 0).trans rfl, (blk_cell BK681.out 1).trans rfl, (blk_cell BK681.out 2).trans rfl, (blk_cell BK681.out 3).trans rfl, (blk_cell BK681.out 4).trans rfl⟩ (fun hHeld => ?_); refine with_tabW laws_FnLonger.tab13 laws_FnLonger.bits13 (fun HT_ HW_ => ?_)
            generalize w166.drew = w167 at BK679 BK680 BK681 BK688 BK695 HB hHeld ⊢
            refine pure_ (i := 0) (N := some 73) (v := ?_) (a' := ?_) #[true, false, false, false, false, false, false, false, false, false, false] rfl rfl (any_of HT_.out (by kernel_rfl)) (fun _ _ _ h => h) (Or.inl ⟨by rfl, ?_⟩) ?_ ?_
            rotate_left
            ·intro w'; go_simp; with_reducible rfl
            rotate_left
            ·simp only [Act.put, List.setIfInBounds_toArray, List.set_cons_zero, List.set_cons_succ, i64_w, i32_w]; rfl
            refine pure_ (i := 2) (N := some 75) (v := ?_) (a' := ?_) #[true, false, true, false, false, false, false, false, false, false, false] rfl rfl (any_of HT_.out (by kernel_rfl)) (fun _ _ _ h => h) (Or.inl ⟨by rfl, ?_⟩) ?_ ?_
            rotate_left
            ·intro w'; go_simp; with_reducible rfl
            rotate_left
            ·simp only [Act.put, List.setIfInBounds_toArray, List.set_cons_zero, List.set_cons_succ, i64_w, i32_w]; rfl
            refine pure_ (i := 4) (N := some 77) (v := ?_) (a' := ?_) #[true, false, true, false, true, false, false, false, false, false, false] rfl rfl (any_of HT_.out (by kernel_rfl)) (fun _ _ _ h => h) (Or.inl ⟨by rfl, ?_⟩) ?_ ?_
            rotate_left
            ·intro w'; go_simp; with_reducible rfl
            rotate_left
            ·simp only [Act.put, List.setIfInBounds_toArray, List.set_cons_zero, List.set_cons_succ, i64_w, i32_w]; rfl
            refine take_ (i := 1) (N := some 74) (v := ?_) (a' := ?_) #[true, true, true, false, true, false, false, false, false, false, false] rfl rfl (take_ofW HT_.out HW_.out (by kernel_rfl)) (fun _ _ _ h => h) (Or.inl ⟨by rfl, ?_⟩) hHeld ?_ ?_
            rotate_left
            ·rintro w' ⟨s0, s1, s2, s3, s4, s5, s6, s7, s8, s9⟩; go_simp; with_reducible rfl
            rotate_left
            ·simp only [Act.put, List.setIfInBounds_toArray, List.set_cons_zero, List.set_cons_succ, i64_w, i32_w]; rfl
            refine take_ (i := 5) (N := some 78) (v := ?_) (a' := ?_) #[true, true, true, false, true, true, false, false, false, false, false] rfl rfl (take_ofW HT_.out HW_.out (by kernel_rfl)) (fun _ _ _ h => h) (Or.inl ⟨by rfl, ?_⟩) hHeld ?_ ?_
            rotate_left
            ·rintro w' ⟨s0, s1, s2, s3, s4, s5, s6, s7, s8, s9⟩; go_simp; with_reducible rfl
            rotate_left
            ·simp only [Act.put, List.setIfInBounds_toArray, List.set_cons_zero, List.set_cons_succ, i64_w, i32_w]; rfl
            refine pure_ (i := 6) (N := some 79) (v := ?_) (a' := ?_) #[true, true, true, false, true, true, true, false, false, false, false] rfl rfl (any_of HT_.out (by kernel_rfl)) (fun _ _ _ h => h) (Or.inl ⟨by rfl, ?_⟩) ?_ ?_
            rotate_left
            ·intro w'; go_simp; with_reducible rfl
            rotate_left
            ·simp only [Act.put, List.setIfInBounds_toArray, List.set_cons_zero, List.set_cons_succ, i64_w, i32_w]; rfl
            refine one_ (i := 3) (N := some 76) #[true, true, true, true, true, true, true, false, false, false, false] rfl rfl (one_of HT_.out (by kernel_rfl)) (by decide) (fun K hK => ?_)
            refine goes_ Try.func11 (by kernel_rfl) rfl #[.slice A1 l1.length c1, .int .i64 1] (by rfl) rfl rfl (by (try simp only [List.map_toArray, List.map_cons, List.map_nil]); first | done | rfl | (simp only [List.length_drop, List.length_take]; rfl)) ?_
            with_reducible refine (laws_wByte.calls _ _ l1 1 t705 _ ?side1 ?side2 A138.out).mono ?_
            (case side1 => repeat (first | exact (Kd.C_below HR1.out HB.out) | (with_reducible refine Kd.C_alloc ?_ _) | (with_reducible refine Kd.C_drewN ?_ _) | (with_reducible refine Kd.C_drew ?_)))
            (case side2 => exact HC1.out)
            rintro e w' ⟨rfl, ⟨nd, rfl⟩⟩
            refine ⟨_, rfl, ?_⟩
            refine hK.out _ _ ⟨(blk_cell BK695.out 0).trans rfl, (blk_cell BK695.out 1).trans rfl, (blk_cell BK695.out 2).trans rfl, (blk_cell BK695.out 3).trans rfl, (blk_cell BK695.out 4).trans rfl, (blk_cell BK681.out 0).trans rfl, (blk_cell BK681.out 1).trans rfl, (blk_cell BK681.out 2).trans rfl, (blk_cell BK681.out 3).trans rfl, (blk_cell BK681.out 4).trans rfl⟩ (fun hHeld => ?_)
            clear hK K
            refine norm_ (a' := ?_) ?_ ?_
            rotate_left
            ·show Act.put _ (some 76) _ = _; simp only [Act.put, List.setIfInBounds_toArray, List.set_cons_zero, List.set_cons_succ, i64_w, i32_w]; rfl
            refine pure_ (i := 7) (N := some 80) (v := ?_) (a' := ?_) #[true, true, true, true, true, true, true, true, false, false, false] rfl rfl (any_of HT_.out (by kernel_rfl)) (fun _ _ _ h => h) (Or.inl ⟨by rfl, ?_⟩) ?_ ?_
            rotate_left
            ·intro w'; go_simp; with_reducible rfl
            rotate_left
            ·simp only [Act.put, List.setIfInBounds_toArray, List.set_cons_zero, List.set_cons_succ, i64_w, i32_w]; rfl
            refine pure_ (i := 8) (N := some 81) (v := ?_) (a' := ?_) #[true, true, true, true, true, true, true, true, true, false, false] rfl rfl (any_of HT_.out (by kernel_rfl)) (fun _ _ _ h => h) (Or.inl ⟨by rfl, ?_⟩) ?_ ?_
            rotate_left
            ·intro w'; go_simp; with_reducible rfl
            rotate_left
            ·simp only [Act.put, List.setIfInBounds_toArray, List.set_cons_zero, List.set_cons_succ, i64_w, i32_w]; rfl
            refine pure_ (i := 9) (N := some 82) (v := ?_) (a' := ?_) #[true, true, true, true, true, true, true, true, true, true, false] rfl rfl (any_of HT_.out (by kernel_rfl)) (fun _ _ _ h => h) (Or.inl ⟨by rfl, ?_⟩) ?_ ?_
            rotate_left
            ·intro w'; go_simp; with_reducible rfl
            rotate_left
            ·simp only [Act.put, List.setIfInBounds_toArray, List.set_cons_zero, List.set_cons_succ, i64_w, i32_w]; rfl
            refine last_ (i := 10) (N := none) #[true, true, true, true, true, true, true, true, true, true, true] rfl rfl (one_of HT_.out (by kernel_rfl)) (by decide) (fun K hK => ?_)
            have hs168 : w167.cell? ⟨gb695, 1, none⟩ = some (.int .i64 t675) := (blk_cell BK695.out 1).trans rfl
            have hfs168 := blk_frozen BK695.out 1
            have hns168_0 := NB679_695.out
            have hns168_1 := NB680_695.out
            have hns168_2 := NB681_695.out
            have hns168_3 := NB688_695.out
            have hms168_0 := NB695_679.out
            have hms168_1 := NB695_680.out
            have hms168_2 := NB695_681.out
            have hms168_3 := NB695_688.out
            refine skip_ (w1 := ?_) (by rfl) rfl ?_ ?_
            rotate_left
            ·go_simp
             rfl
            refine hK.out _ _ ?_
            clear hK K
            refine done_ (done_of HT_.out (by kernel_rfl)) ?_
            have hnb169 := NB679_680.out
            have hnc169 := NB680_679.out
            have hnb170 := NB679_681.out
            have hnc170 := NB681_679.out
            have hnb171 := NB679_688.out
            have hnc171 := NB688_679.out
            have hnb172 := NB679_695.out
            have hnc172 := NB695_679.out
            obtain ⟨hcz173_0, hcz173_1, hcz173_2, hcz173_3, hcz173_4⟩ := bc5 BK679.out
            obtain ⟨hfz173_0, hfz173_1, hfz173_2, hfz173_3, hfz173_4⟩ := bf5 BK679.out
            have hnb174 := NB680_681.out
            have hnc174 := NB681_680.out
            have hnb175 := NB680_688.out
            have hnc175 := NB688_680.out
            have hnb176 := NB680_695.out
            have hnc176 := NB695_680.out
            obtain ⟨hcz177_0, hcz177_1⟩ := bc2 BK680.out
            obtain ⟨hfz177_0, hfz177_1⟩ := bf2 BK680.out
            have hnb178 := NB695_681.out
            have hnc178 := NB681_695.out
            have hnb179 := NB695_688.out
            have hnc179 := NB688_695.out
            obtain ⟨hcz180_0, hcz180_1, hcz180_2, hcz180_3, hcz180_4⟩ := bc5 BK695.out
            obtain ⟨hfz180_0, hfz180_1, hfz180_2, hfz180_3, hfz180_4⟩ := bf5 BK695.out
            try go_wp2_with (first | ((with_reducible refine gate_callee (f := 21) rfl ?_); refine goesL_ (some 86) rfl rfl Try.func21 (by kernel_rfl) rfl #[.agg #[.int .i64 t667, .int .i64 t668, .int .i64 t669, .int .i64 t670, .int .i64 t671], .agg #[.int .i64 t672, .int .i64 t673], .agg #[.int .i64 t674, .int .i64 (wrap64 (t675 - (Int.tmod t705 (wrap64 (t675 + 1))))), .int .i64 t676, .int .i64 t677, .bool t678]] rfl (by (try simp only [List.map_toArray, List.map_cons, List.map_nil]); first | done | rfl | (simp only [List.length_drop, List.length_take]; rfl)) ?_; (with_reducible refine (impl_Tick.calls kj7 t667 t668 t669 t670 t671 t672 t673 t674 (wrap64 (t675 - (Int.tmod t705 (wrap64 (t675 + 1))))) t676 t677 t678 false t707 t708 t709 t710 t711 _ A140.out).mono ?_); rintro e w181 ⟨rfl, hb⟩; refine ⟨_, rfl, ?_⟩; have n0_ := MK (blk_below (g := gb679) (o := .cells #[.int .i64 t667, .int .i64 t668, .int .i64 t669, .int .i64 t670, .int .i64 t671] 24 (0, 0)) (by (with_reducible repeat (first | refine bN ?_ _ | refine bD ?_ | refine bA ?_ _)); refine blk_far ?_ NB679_695.out _; (with_reducible repeat (first | refine bN ?_ _ | refine bD ?_ | refine bA ?_ _)); exact BK679.out) hb); have n1_ := MK (blk_below (g := gb680) (o := .cells #[.int .i64 t672, .int .i64 t673] 31 (0, 0)) (by (with_reducible repeat (first | refine bN ?_ _ | refine bD ?_ | refine bA ?_ _)); refine blk_far ?_ NB680_695.out _; (with_reducible repeat (first | refine bN ?_ _ | refine bD ?_ | refine bA ?_ _)); exact BK680.out) hb); have n2_ := MK (blk_below (g := gb681) (o := .cells #[.int .i64 t674, .int .i64 t675, .int .i64 t676, .int .i64 t677, .bool t678] 44 (0, 0)) (by (with_reducible repeat (first | refine bN ?_ _ | refine bD ?_ | refine bA ?_ _)); refine blk_far ?_ NB681_695.out _; (with_reducible repeat (first | refine bN ?_ _ | refine bD ?_ | refine bA ?_ _)); exact BK681.out) hb); have n3_ := MK (blk_below (g := gb688) (o := .cells #[.bool t682, .int .i64 t683, .int .i64 t684, .int .i64 t685, .bool t686, .bool t687] 33 (0, 0)) (by (with_reducible repeat (first | refine bN ?_ _ | refine bD ?_ | refine bA ?_ _)); refine blk_far ?_ NB688_695.out _; (with_reducible repeat (first | refine bN ?_ _ | refine bD ?_ | refine bA ?_ _)); exact BK688.out) hb); have n4_ := MK (blk_below (g := gb695) (o := .cells #[.int .i64 t674, .int .i64 (wrap64 (t675 - (Int.tmod t705 (wrap64 (t675 + 1))))), .int .i64 t676, .int .i64 t677, .bool t678] 44 (0, 0)) (by (with_reducible repeat (first | refine bN ?_ _ | refine bD ?_ | refine bA ?_ _)); refine blk_put (cs := #[.int .i64 t674, .int .i64 t675, .int .i64 t676, .int .i64 t677, .bool t678]) ?_ 1 _ rfl; (with_reducible repeat (first | refine bN ?_ _ | refine bD ?_ | refine bA ?_ _)); exact BK695.out) hb); have n5_ := MK (below_step (by repeat (first | (with_reducible first | exact HB.out | apply lA | apply lN | apply lD | refine lS ?_ GE679.out | refine lS ?_ GE680.out | refine lS ?_ GE681.out | refine lS ?_ GE688.out | refine lS ?_ GE695.out) | exact HB.out)) hb); clear BK679; clear BK680; clear BK681; clear BK688; clear BK695; clear HB; have BK679 := n0_; have BK680 := n1_; have BK681 := n2_; have BK688 := n3_; have BK695 := n4_; have HB := n5_; clear n0_ n1_ n2_ n3_ n4_ n5_; (try clear hb); (try clear hb2); (try clear hk); (try clear hi)) | ((with_reducible refine gate_dst (N := 10) rfl ?_); (try (refine gate_guard (by rfl) ?_; dsimp only)); refine box_event ?hg (N := 10) ?hd (cs := #[.bool false, .int .i64 0, .int .i64 0, .int .i64 0, .bool false, .bool false]) (t := 33) ?hr ?_; (case hd => rfl); (case hg => rfl); (case hr => first | (go_simp; done) | (go_simp; rfl)); intro gb712 hg w182 hbox hb; have n0_ := MK (blk_below (by (with_reducible repeat (first | refine bN ?_ _ | refine bD ?_ | refine bA ?_ _)); exact BK679.out) hb); have n1_ := MK (blk_below (by (with_reducible repeat (first | refine bN ?_ _ | refine bD ?_ | refine bA ?_ _)); exact BK680.out) hb); have n2_ := MK (blk_below (by (with_reducible repeat (first | refine bN ?_ _ | refine bD ?_ | refine bA ?_ _)); exact BK681.out) hb); have n3_ := MK (blk_below (by (with_reducible repeat (first | refine bN ?_ _ | refine bD ?_ | refine bA ?_ _)); exact BK688.out) hb); have n4_ := MK (blk_below (by (with_reducible repeat (first | refine bN ?_ _ | refine bD ?_ | refine bA ?_ _)); exact BK695.out) hb); have n5_ := MK (below_step (by repeat (first | (with_reducible first | exact HB.out | apply lA | apply lN | apply lD | refine lS ?_ GE679.out | refine lS ?_ GE680.out | refine lS ?_ GE681.out | refine lS ?_ GE688.out | refine lS ?_ GE695.out) | exact HB.out)) hb); have n6_ := MK (hbox); have n7_ := MK ((by rw [hg]; exact (below_size (by repeat (first | (with_reducible first | exact HB.out | apply lA | apply lN | apply lD | refine lS ?_ GE679.out | refine lS ?_ GE680.out | refine lS ?_ GE681.out | refine lS ?_ GE688.out | refine lS ?_ GE695.out) | exact HB.out))) : w.heap.size ≤ gb712)); have n8_ := MK ((by rw [hg]; exact (below_size (by repeat (first | (with_reducible first | exact HB.out | apply lA | apply lN | apply lD | refine lS ?_ GE679.out | refine lS ?_ GE680.out | refine lS ?_ GE681.out | refine lS ?_ GE688.out | refine lS ?_ GE695.out) | exact HB.out))) : w.heap.size ≤ gb712)); have n9_ := MK ((by rw [hg]; exact Nat.ne_of_lt (blk_lt (by (with_reducible repeat (first | refine bN ?_ _ | refine bD ?_ | refine bA ?_ _)); exact BK679.out)) : gb679 ≠ gb712)); have n10_ := MK ((by rw [hg]; exact Nat.ne_of_gt (blk_lt (by (with_reducible repeat (first | refine bN ?_ _ | refine bD ?_ | refine bA ?_ _)); exact BK679.out)) : gb712 ≠ gb679)); have n11_ := MK ((by rw [hg]; exact Nat.ne_of_lt (blk_lt (by (with_reducible repeat (first | refine bN ?_ _ | refine bD ?_ | refine bA ?_ _)); exact BK680.out)) : gb680 ≠ gb712)); have n12_ := MK ((by rw [hg]; exact Nat.ne_of_gt (blk_lt (by (with_reducible repeat (first | refine bN ?_ _ | refine bD ?_ | refine bA ?_ _)); exact BK680.out)) : gb712 ≠ gb680)); have n13_ := MK ((by rw [hg]; exact Nat.ne_of_lt (blk_lt (by (with_reducible repeat (first | refine bN ?_ _ | refine bD ?_ | refine bA ?_ _)); exact BK681.out)) : gb681 ≠ gb712)); have n14_ := MK ((by rw [hg]; exact Nat.ne_of_gt (blk_lt (by (with_reducible repeat (first | refine bN ?_ _ | refine bD ?_ | refine bA ?_ _)); exact BK681.out)) : gb712 ≠ gb681)); have n15_ := MK ((by rw [hg]; exact Nat.ne_of_lt (blk_lt (by (with_reducible repeat (first | refine bN ?_ _ | refine bD ?_ | refine bA ?_ _)); exact BK688.out)) : gb688 ≠ gb712)); have n16_ := MK ((by rw [hg]; exact Nat.ne_of_gt (blk_lt (by (with_reducible repeat (first | refine bN ?_ _ | refine bD ?_ | refine bA ?_ _)); exact BK688.out)) : gb712 ≠ gb688)); have n17_ := MK ((by rw [hg]; exact Nat.ne_of_lt (blk_lt (by (with_reducible repeat (first | refine bN ?_ _ | refine bD ?_ | refine bA ?_ _)); exact BK695.out)) : gb695 ≠ gb712)); have n18_ := MK ((by rw [hg]; exact Nat.ne_of_gt (blk_lt (by (with_reducible repeat (first | refine bN ?_ _ | refine bD ?_ | refine bA ?_ _)); exact BK695.out)) : gb712 ≠ gb695)); clear BK679; clear BK680; clear BK681; clear BK688; clear BK695; clear HB; have BK679 := n0_; have BK680 := n1_; have BK681 := n2_; have BK688 := n3_; have BK695 := n4_; have HB := n5_; have BK712 := n6_; have GW712 := n7_; have GE712 := n8_; have NB679_712 := n9_; have NB712_679 := n10_; have NB680_712 := n11_; have NB712_680 := n12_; have NB681_712 := n13_; have NB712_681 := n14_; have NB688_712 := n15_; have NB712_688 := n16_; have NB695_712 := n17_; have NB712_695 := n18_; clear n0_ n1_ n2_ n3_ n4_ n5_ n6_ n7_ n8_ n9_ n10_ n11_ n12_ n13_ n14_ n15_ n16_ n17_ n18_; clear hb hbox hg; have hnb183 := NB712_679.out; have hnc183 := NB679_712.out; have hnb184 := NB712_680.out; have hnc184 := NB680_712.out; have hnb185 := NB712_681.out; have hnc185 := NB681_712.out; have hnb186 := NB712_688.out; have hnc186 := NB688_712.out; have hnb187 := NB712_695.out; have hnc187 := NB695_712.out; obtain ⟨hcz188_0, hcz188_1, hcz188_2, hcz188_3, hcz188_4, hcz188_5⟩ := bc6 BK712.out; obtain ⟨hfz188_0, hfz188_1, hfz188_2, hfz188_3, hfz188_4, hfz188_5⟩ := bf6 BK712.out; obtain ⟨hcz189_0, hcz189_1, hcz189_2, hcz189_3, hcz189_4⟩ := bc5 BK695.out; obtain ⟨hfz189_0, hfz189_1, hfz189_2, hfz189_3, hfz189_4⟩ := bf5 BK695.out))
            go_ret
            exact ⟨by first | rfl | (simp [errW_none, errW_some] <;> rfl) | (simp [*, errW_none, errW_some] <;> rfl), by repeat (first | (with_reducible first | exact HB.out | apply lA | apply lN | apply lD | refine lS ?_ GE679.out | refine lS ?_ GE680.out | refine lS ?_ GE681.out | refine lS ?_ GE688.out | refine lS ?_ GE695.out | refine lS ?_ GE712.out) | exact HB.out)⟩
           ·rw [if_neg c165] at H
            have c165b0 : decide (100000000 < t676) = false := decide_eq_false c165
            clear c165
            obtain rfl := Option.some.inj H
            try go_wp2
            have n0_ : Aside0 ((((((w55.setCell ⟨gb695, 0, none⟩ (.int .i64 t674)).setCell ⟨gb695, 1, none⟩ (.int .i64 t675)).setCell ⟨gb695, 2, none⟩ (.int .i64 t676)).setCell ⟨gb695, 3, none⟩ (.int .i64 t677)).setCell ⟨gb695, 4, none⟩ (.bool t678)).heap[gb679]? = some (.cells #[.int .i64 t667, .int .i64 t668, .int .i64 t669, .int .i64 t670, .int .i64 t671] 24 (0, 0))) := ⟨by refine blk_far ?_ NB679_695.out _; refine blk_far ?_ NB679_695.out _; refine blk_far ?_ NB679_695.out _; refine blk_far ?_ NB679_695.out _; refine blk_far ?_ NB679_695.out _; (with_reducible repeat (first | refine bN ?_ _ | refine bD ?_ | refine bA ?_ _)); exact BK679.out⟩
            have n1_ : Aside0 ((((((w55.setCell ⟨gb695, 0, none⟩ (.int .i64 t674)).setCell ⟨gb695, 1, none⟩ (.int .i64 t675)).setCell ⟨gb695, 2, none⟩ (.int .i64 t676)).setCell ⟨gb695, 3, none⟩ (.int .i64 t677)).setCell ⟨gb695, 4, none⟩ (.bool t678)).heap[gb680]? = some (.cells #[.int .i64 t672, .int .i64 t673] 31 (0, 0))) := ⟨by refine blk_far ?_ NB680_695.out _; refine blk_far ?_ NB680_695.out _; refine blk_far ?_ NB680_695.out _; refine blk_far ?_ NB680_695.out _; refine blk_far ?_ NB680_695.out _; (with_reducible repeat (first | refine bN ?_ _ | refine bD ?_ | refine bA ?_ _)); exact BK680.out⟩
            have n2_ : Aside0 ((((((w55.setCell ⟨gb695, 0, none⟩ (.int .i64 t674)).setCell ⟨gb695, 1, none⟩ (.int .i64 t675)).setCell ⟨gb695, 2, none⟩ (.int .i64 t676)).setCell ⟨gb695, 3, none⟩ (.int .i64 t677)).setCell ⟨gb695, 4, none⟩ (.bool t678)).heap[gb681]? = some (.cells #[.int .i64 t674, .int .i64 t675, .int .i64 t676, .int .i64 t677, .bool t678] 44 (0, 0))) := ⟨by refine blk_far ?_ NB681_695.out _; refine blk_far ?_ NB681_695.out _; refine blk_far ?_ NB681_695.out _; refine blk_far ?_ NB681_695.out _; refine blk_far ?_ NB681_695.out _; (with_reducible repeat (first | refine bN ?_ _ | refine bD ?_ | refine bA ?_ _)); exact BK681.out⟩
            have n3_ : Aside0 ((((((w55.setCell ⟨gb695, 0, none⟩ (.int .i64 t674)).setCell ⟨gb695, 1, none⟩ (.int .i64 t675)).setCell ⟨gb695, 2, none⟩ (.int .i64 t676)).setCell ⟨gb695, 3, none⟩ (.int .i64 t677)).setCell ⟨gb695, 4, none⟩ (.bool t678)).heap[gb688]? = some (.cells #[.bool t682, .int .i64 t683, .int .i64 t684, .int .i64 t685, .bool t686, .bool t687] 33 (0, 0))) := ⟨by refine blk_far ?_ NB688_695.out _; refine blk_far ?_ NB688_695.out _; refine blk_far ?_ NB688_695.out _; refine blk_far ?_ NB688_695.out _; refine blk_far ?_ NB688_695.out _; (with_reducible repeat (first | refine bN ?_ _ | refine bD ?_ | refine bA ?_ _)); exact BK688.out⟩
            have n4_ : Aside0 ((((((w55.setCell ⟨gb695, 0, none⟩ (.int .i64 t674)).setCell ⟨gb695, 1, none⟩ (.int .i64 t675)).setCell ⟨gb695, 2, none⟩ (.int .i64 t676)).setCell ⟨gb695, 3, none⟩ (.int .i64 t677)).setCell ⟨gb695, 4, none⟩ (.bool t678)).heap[gb695]? = some (.cells #[.int .i64 t674, .int .i64 t675, .int .i64 t676, .int .i64 t677, .bool t678] 44 (0, 0))) := ⟨by refine blk_put (cs := #[.int .i64 t674, .int .i64 t675, .int .i64 t676, .int .i64 t677, .bool false]) ?_ 4 _ rfl; refine blk_put (cs := #[.int .i64 t674, .int .i64 t675, .int .i64 t676, .int .i64 0, .bool false]) ?_ 3 _ rfl; refine blk_put (cs := #[.int .i64 t674, .int .i64 t675, .int .i64 0, .int .i64 0, .bool false]) ?_ 2 _ rfl; refine blk_put (cs := #[.int .i64 t674, .int .i64 0, .int .i64 0, .int .i64 0, .bool false]) ?_ 1 _ rfl; refine blk_put (cs := #[.int .i64 0, .int .i64 0, .int .i64 0, .int .i64 0, .bool false]) ?_ 0 _ rfl; (with_reducible repeat (first | refine bN ?_ _ | refine bD ?_ | refine bA ?_ _)); exact BK695.out⟩
            have n5_ : Aside0 (Below w.heap.size w (((((w55.setCell ⟨gb695, 0, none⟩ (.int .i64 t674)).setCell ⟨gb695, 1, none⟩ (.int .i64 t675)).setCell ⟨gb695, 2, none⟩ (.int .i64 t676)).setCell ⟨gb695, 3, none⟩ (.int .i64 t677)).setCell ⟨gb695, 4, none⟩ (.bool t678))) := ⟨by repeat (first | (with_reducible first | exact HB.out | apply lA | apply lN | apply lD | refine lS ?_ GE679.out | refine lS ?_ GE680.out | refine lS ?_ GE681.out | refine lS ?_ GE688.out | refine lS ?_ GE695.out) | exact HB.out)⟩
            (try clear BK679)
            (try clear BK680)
            (try clear BK681)
            (try clear BK688)
            (try clear BK695)
            (try clear HB)
            generalize (((((w55.setCell ⟨gb695, 0, none⟩ (.int .i64 t674)).setCell ⟨gb695, 1, none⟩ (.int .i64 t675)).setCell ⟨gb695, 2, none⟩ (.int .i64 t676)).setCell ⟨gb695, 3, none⟩ (.int .i64 t677)).setCell ⟨gb695, 4, none⟩ (.bool t678)) = w190 at n0_ n1_ n2_ n3_ n4_ n5_ ⊢
            have n0_ := MK (bN n0_.out nd)
            have n1_ := MK (bN n1_.out nd)
            have n2_ := MK (bN n2_.out nd)
            have n3_ := MK (bN n3_.out nd)
            have n4_ := MK (bN n4_.out nd)
            have n5_ := MK (lN n5_.out nd)
            generalize w190.drewN nd = w190 at n0_ n1_ n2_ n3_ n4_ n5_ ⊢
            have BK679 := n0_
            have BK680 := n1_
            have BK681 := n2_
            have BK688 := n3_
            have BK695 := n4_
            have HB := n5_
            clear n0_ n1_ n2_ n3_ n4_ n5_
            have n0_ := MK (bD BK679.out)
            have n1_ := MK (bD BK680.out)
            have n2_ := MK (bD BK681.out)
            have n3_ := MK (bD BK688.out)
            have n4_ := MK (bD BK695.out)
            have n5_ := MK (lD HB.out)
            clear BK679
            clear BK680
            clear BK681
            clear BK688
            clear BK695
            clear HB
            have BK679 := n0_
            have BK680 := n1_
            have BK681 := n2_
            have BK688 := n3_
            have BK695 := n4_
            have HB := n5_
            clear n0_ n1_ n2_ n3_ n4_ n5_
            refine start_ (n := 11) (S := fun w' => w'.cell? ⟨gb695, 0, none⟩ = some (.int .i64 t674) ∧ w'.cell? ⟨gb695, 1, none⟩ = some (.int .i64 t675) ∧ w'.cell? ⟨gb695, 2, none⟩ = some (.int .i64 t676) ∧ w'.cell? ⟨gb695, 3, none⟩ = some (.int .i64 t677) ∧ w'.cell? ⟨gb695, 4, none⟩ = some (.bool t678) ∧ w'.cell? ⟨gb681, 0, none⟩ = some (.int .i64 t674) ∧ w'.cell? ⟨gb681, 1, none⟩ = some (.int .i64 t675) ∧ w'.cell? ⟨gb681, 2, none⟩ = some (.int .i64 t676) ∧ w'.cell? ⟨gb681, 3, none⟩ = some (.int .i64 t677) ∧ w'.cell? ⟨gb681, 4, none⟩ = some (.bool t678)) (ds := [10]) #[false, false, false, false, false, false, false, false, false, false, false] (by kernel_rfl) rfl rfl ⟨(blk_cell BK695.out 0).trans rfl, (blk_cell BK695.out 1).trans rfl, (blk_cell BK695.out 2).trans rfl, (blk_cell BK695.out 3).trans rfl, (blk_cell BK695.out 4).trans rfl, (blk_cell BK681.out 0).trans rfl, (blk_cell BK681.out 1).trans rfl, (blk_cell BK681.out 2).trans rfl, (blk_cell BK681.out 3).trans rfl, (blk_cell BK681.out 4).trans rfl⟩ (fun hHeld => ?_); refine with_tabW laws_FnLonger.tab13 laws_FnLonger.bits13 (fun HT_ HW_ => ?_)
            generalize w190.drew = w191 at BK679 BK680 BK681 BK688 BK695 HB hHeld ⊢
            refine pure_ (i := 0) (N := some 73) (v := ?_) (a' := ?_) #[true, false, false, false, false, false, false, false, false, false, false] rfl rfl (any_of HT_.out (by kernel_rfl)) (fun _ _ _ h => h) (Or.inl ⟨by rfl, ?_⟩) ?_ ?_
            rotate_left
            ·intro w'; go_simp; with_reducible rfl
            rotate_left
            ·simp only [Act.put, List.setIfInBounds_toArray, List.set_cons_zero, List.set_cons_succ, i64_w, i32_w]; rfl
            refine pure_ (i := 2) (N := some 75) (v := ?_) (a' := ?_) #[true, false, true, false, false, false, false, false, false, false, false] rfl rfl (any_of HT_.out (by kernel_rfl)) (fun _ _ _ h => h) (Or.inl ⟨by rfl, ?_⟩) ?_ ?_
            rotate_left
            ·intro w'; go_simp; with_reducible rfl
            rotate_left
            ·simp only [Act.put, List.setIfInBounds_toArray, List.set_cons_zero, List.set_cons_succ, i64_w, i32_w]; rfl
            refine pure_ (i := 4) (N := some 77) (v := ?_) (a' := ?_) #[true, false, true, false, true, false, false, false, false, false, false] rfl rfl (any_of HT_.out (by kernel_rfl)) (fun _ _ _ h => h) (Or.inl ⟨by rfl, ?_⟩) ?_ ?_
            rotate_left
            ·intro w'; go_simp; with_reducible rfl
            rotate_left
            ·simp only [Act.put, List.setIfInBounds_toArray, List.set_cons_zero, List.set_cons_succ, i64_w, i32_w]; rfl
            refine take_ (i := 1) (N := some 74) (v := ?_) (a' := ?_) #[true, true, true, false, true, false, false, false, false, false, false] rfl rfl (take_ofW HT_.out HW_.out (by kernel_rfl)) (fun _ _ _ h => h) (Or.inl ⟨by rfl, ?_⟩) hHeld ?_ ?_
            rotate_left
            ·rintro w' ⟨s0, s1, s2, s3, s4, s5, s6, s7, s8, s9⟩; go_simp; with_reducible rfl
            rotate_left
            ·simp only [Act.put, List.setIfInBounds_toArray, List.set_cons_zero, List.set_cons_succ, i64_w, i32_w]; rfl
            refine take_ (i := 5) (N := some 78) (v := ?_) (a' := ?_) #[true, true, true, false, true, true, false, false, false, false, false] rfl rfl (take_ofW HT_.out HW_.out (by kernel_rfl)) (fun _ _ _ h => h) (Or.inl ⟨by rfl, ?_⟩) hHeld ?_ ?_
            rotate_left
            ·rintro w' ⟨s0, s1, s2, s3, s4, s5, s6, s7, s8, s9⟩; go_simp; with_reducible rfl
            rotate_left
            ·simp only [Act.put, List.setIfInBounds_toArray, List.set_cons_zero, List.set_cons_succ, i64_w, i32_w]; rfl
            refine pure_ (i := 6) (N := some 79) (v := ?_) (a' := ?_) #[true, true, true, false, true, true, true, false, false, false, false] rfl rfl (any_of HT_.out (by kernel_rfl)) (fun _ _ _ h => h) (Or.inl ⟨by rfl, ?_⟩) ?_ ?_
            rotate_left
            ·intro w'; go_simp; with_reducible rfl
            rotate_left
            ·simp only [Act.put, List.setIfInBounds_toArray, List.set_cons_zero, List.set_cons_succ, i64_w, i32_w]; rfl
            refine one_ (i := 3) (N := some 76) #[true, true, true, true, true, true, true, false, false, false, false] rfl rfl (one_of HT_.out (by kernel_rfl)) (by decide) (fun K hK => ?_)
            refine goes_ Try.func11 (by kernel_rfl) rfl #[.slice A1 l1.length c1, .int .i64 1] (by rfl) rfl rfl (by (try simp only [List.map_toArray, List.map_cons, List.map_nil]); first | done | rfl | (simp only [List.length_drop, List.length_take]; rfl)) ?_
            with_reducible refine (laws_wByte.calls _ _ l1 1 t705 _ ?side1 ?side2 A138.out).mono ?_
            (case side1 => repeat (first | exact (Kd.C_below HR1.out HB.out) | (with_reducible refine Kd.C_alloc ?_ _) | (with_reducible refine Kd.C_drewN ?_ _) | (with_reducible refine Kd.C_drew ?_)))
            (case side2 => exact HC1.out)
            rintro e w' ⟨rfl, ⟨nd, rfl⟩⟩
            refine ⟨_, rfl, ?_⟩
            refine hK.out _ _ ⟨(blk_cell BK695.out 0).trans rfl, (blk_cell BK695.out 1).trans rfl, (blk_cell BK695.out 2).trans rfl, (blk_cell BK695.out 3).trans rfl, (blk_cell BK695.out 4).trans rfl, (blk_cell BK681.out 0).trans rfl, (blk_cell BK681.out 1).trans rfl, (blk_cell BK681.out 2).trans rfl, (blk_cell BK681.out 3).trans rfl, (blk_cell BK681.out 4).trans rfl⟩ (fun hHeld => ?_)
            clear hK K
            refine norm_ (a' := ?_) ?_ ?_
            rotate_left
            ·show Act.put _ (some 76) _ = _; simp only [Act.put, List.setIfInBounds_toArray, List.set_cons_zero, List.set_cons_succ, i64_w, i32_w]; rfl
            refine pure_ (i := 7) (N := some 80) (v := ?_) (a' := ?_) #[true, true, true, true, true, true, true, true, false, false, false] rfl rfl (any_of HT_.out (by kernel_rfl)) (fun _ _ _ h => h) (Or.inl ⟨by rfl, ?_⟩) ?_ ?_
            rotate_left
            ·intro w'; go_simp; with_reducible rfl
            rotate_left
            ·simp only [Act.put, List.setIfInBounds_toArray, List.set_cons_zero, List.set_cons_succ, i64_w, i32_w]; rfl
            refine pure_ (i := 8) (N := some 81) (v := ?_) (a' := ?_) #[true, true, true, true, true, true, true, true, true, false, false] rfl rfl (any_of HT_.out (by kernel_rfl)) (fun _ _ _ h => h) (Or.inl ⟨by rfl, ?_⟩) ?_ ?_
            rotate_left
            ·intro w'; go_simp; with_reducible rfl
            rotate_left
            ·simp only [Act.put, List.setIfInBounds_toArray, List.set_cons_zero, List.set_cons_succ, i64_w, i32_w]; rfl
            refine pure_ (i := 9) (N := some 82) (v := ?_) (a' := ?_) #[true, true, true, true, true, true, true, true, true, true, false] rfl rfl (any_of HT_.out (by kernel_rfl)) (fun _ _ _ h => h) (Or.inl ⟨by rfl, ?_⟩) ?_ ?_
            rotate_left
            ·intro w'; go_simp; with_reducible rfl
            rotate_left
            ·simp only [Act.put, List.setIfInBounds_toArray, List.set_cons_zero, List.set_cons_succ, i64_w, i32_w]; rfl
            refine last_ (i := 10) (N := none) #[true, true, true, true, true, true, true, true, true, true, true] rfl rfl (one_of HT_.out (by kernel_rfl)) (by decide) (fun K hK => ?_)
            have hs192 : w191.cell? ⟨gb695, 1, none⟩ = some (.int .i64 t675) := (blk_cell BK695.out 1).trans rfl
            have hfs192 := blk_frozen BK695.out 1
            have hns192_0 := NB679_695.out
            have hns192_1 := NB680_695.out
            have hns192_2 := NB681_695.out
            have hns192_3 := NB688_695.out
            have hms192_0 := NB695_679.out
            have hms192_1 := NB695_680.out
            have hms192_2 := NB695_681.out
            have hms192_3 := NB695_688.out
            refine skip_ (w1 := ?_) (by rfl) rfl ?_ ?_
            rotate_left
            ·go_simp
             rfl
            refine hK.out _ _ ?_
            clear hK K
            refine done_ (done_of HT_.out (by kernel_rfl)) ?_
            have hnb193 := NB679_680.out
            have hnc193 := NB680_679.out
            have hnb194 := NB679_681.out
            have hnc194 := NB681_679.out
            have hnb195 := NB679_688.out
            have hnc195 := NB688_679.out
            have hnb196 := NB679_695.out
            have hnc196 := NB695_679.out
            obtain ⟨hcz197_0, hcz197_1, hcz197_2, hcz197_3, hcz197_4⟩ := bc5 BK679.out
            obtain ⟨hfz197_0, hfz197_1, hfz197_2, hfz197_3, hfz197_4⟩ := bf5 BK679.out
            have hnb198 := NB680_681.out
            have hnc198 := NB681_680.out
            have hnb199 := NB680_688.out
            have hnc199 := NB688_680.out
            have hnb200 := NB680_695.out
            have hnc200 := NB695_680.out
            obtain ⟨hcz201_0, hcz201_1⟩ := bc2 BK680.out
            obtain ⟨hfz201_0, hfz201_1⟩ := bf2 BK680.out
            have hnb202 := NB695_681.out
            have hnc202 := NB681_695.out
            have hnb203 := NB695_688.out
            have hnc203 := NB688_695.out
            obtain ⟨hcz204_0, hcz204_1, hcz204_2, hcz204_3, hcz204_4⟩ := bc5 BK695.out
            obtain ⟨hfz204_0, hfz204_1, hfz204_2, hfz204_3, hfz204_4⟩ := bf5 BK695.out
            try go_wp2_with (first | ((with_reducible refine gate_callee (f := 21) rfl ?_); refine goesL_ (some 86) rfl rfl Try.func21 (by kernel_rfl) rfl #[.agg #[.int .i64 t667, .int .i64 t668, .int .i64 t669, .int .i64 t670, .int .i64 t671], .agg #[.int .i64 t672, .int .i64 t673], .agg #[.int .i64 t674, .int .i64 (wrap64 (t675 - (Int.tmod t705 (wrap64 (t675 + 1))))), .int .i64 t676, .int .i64 t677, .bool t678]] rfl (by (try simp only [List.map_toArray, List.map_cons, List.map_nil]); first | done | rfl | (simp only [List.length_drop, List.length_take]; rfl)) ?_; (with_reducible refine (impl_Tick.calls kj7 t667 t668 t669 t670 t671 t672 t673 t674 (wrap64 (t675 - (Int.tmod t705 (wrap64 (t675 + 1))))) t676 t677 t678 false t707 t708 t709 t710 t711 _ A140.out).mono ?_); rintro e w205 ⟨rfl, hb⟩; refine ⟨_, rfl, ?_⟩; have n0_ := MK (blk_below (g := gb679) (o := .cells #[.int .i64 t667, .int .i64 t668, .int .i64 t669, .int .i64 t670, .int .i64 t671] 24 (0, 0)) (by (with_reducible repeat (first | refine bN ?_ _ | refine bD ?_ | refine bA ?_ _)); refine blk_far ?_ NB679_695.out _; (with_reducible repeat (first | refine bN ?_ _ | refine bD ?_ | refine bA ?_ _)); exact BK679.out) hb); have n1_ := MK (blk_below (g := gb680) (o := .cells #[.int .i64 t672, .int .i64 t673] 31 (0, 0)) (by (with_reducible repeat (first | refine bN ?_ _ | refine bD ?_ | refine bA ?_ _)); refine blk_far ?_ NB680_695.out _; (with_reducible repeat (first | refine bN ?_ _ | refine bD ?_ | refine bA ?_ _)); exact BK680.out) hb); have n2_ := MK (blk_below (g := gb681) (o := .cells #[.int .i64 t674, .int .i64 t675, .int .i64 t676, .int .i64 t677, .bool t678] 44 (0, 0)) (by (with_reducible repeat (first | refine bN ?_ _ | refine bD ?_ | refine bA ?_ _)); refine blk_far ?_ NB681_695.out _; (with_reducible repeat (first | refine bN ?_ _ | refine bD ?_ | refine bA ?_ _)); exact BK681.out) hb); have n3_ := MK (blk_below (g := gb688) (o := .cells #[.bool t682, .int .i64 t683, .int .i64 t684, .int .i64 t685, .bool t686, .bool t687] 33 (0, 0)) (by (with_reducible repeat (first | refine bN ?_ _ | refine bD ?_ | refine bA ?_ _)); refine blk_far ?_ NB688_695.out _; (with_reducible repeat (first | refine bN ?_ _ | refine bD ?_ | refine bA ?_ _)); exact BK688.out) hb); have n4_ := MK (blk_below (g := gb695) (o := .cells #[.int .i64 t674, .int .i64 (wrap64 (t675 - (Int.tmod t705 (wrap64 (t675 + 1))))), .int .i64 t676, .int .i64 t677, .bool t678] 44 (0, 0)) (by (with_reducible repeat (first | refine bN ?_ _ | refine bD ?_ | refine bA ?_ _)); refine blk_put (cs := #[.int .i64 t674, .int .i64 t675, .int .i64 t676, .int .i64 t677, .bool t678]) ?_ 1 _ rfl; (with_reducible repeat (first | refine bN ?_ _ | refine bD ?_ | refine bA ?_ _)); exact BK695.out) hb); have n5_ := MK (below_step (by repeat (first | (with_reducible first | exact HB.out | apply lA | apply lN | apply lD | refine lS ?_ GE679.out | refine lS ?_ GE680.out | refine lS ?_ GE681.out | refine lS ?_ GE688.out | refine lS ?_ GE695.out) | exact HB.out)) hb); clear BK679; clear BK680; clear BK681; clear BK688; clear BK695; clear HB; have BK679 := n0_; have BK680 := n1_; have BK681 := n2_; have BK688 := n3_; have BK695 := n4_; have HB := n5_; clear n0_ n1_ n2_ n3_ n4_ n5_; (try clear hb); (try clear hb2); (try clear hk); (try clear hi)) | ((with_reducible refine gate_dst (N := 10) rfl ?_); (try (refine gate_guard (by rfl) ?_; dsimp only)); refine box_event ?hg (N := 10) ?hd (cs := #[.bool false, .int .i64 0, .int .i64 0, .int .i64 0, .bool false, .bool false]) (t := 33) ?hr ?_; (case hd => rfl); (case hg => rfl); (case hr => first | (go_simp; done) | (go_simp; rfl)); intro gb712 hg w206 hbox hb; have n0_ := MK (blk_below (by (with_reducible repeat (first | refine bN ?_ _ | refine bD ?_ | refine bA ?_ _)); exact BK679.out) hb); have n1_ := MK (blk_below (by (with_reducible repeat (first | refine bN ?_ _ | refine bD ?_ | refine bA ?_ _)); exact BK680.out) hb); have n2_ := MK (blk_below (by (with_reducible repeat (first | refine bN ?_ _ | refine bD ?_ | refine bA ?_ _)); exact BK681.out) hb); have n3_ := MK (blk_below (by (with_reducible repeat (first | refine bN ?_ _ | refine bD ?_ | refine bA ?_ _)); exact BK688.out) hb); have n4_ := MK (blk_below (by (with_reducible repeat (first | refine bN ?_ _ | refine bD ?_ | refine bA ?_ _)); exact BK695.out) hb); have n5_ := MK (below_step (by repeat (first | (with_reducible first | exact HB.out | apply lA | apply lN | apply lD | refine lS ?_ GE679.out | refine lS ?_ GE680.out | refine lS ?_ GE681.out | refine lS ?_ GE688.out | refine lS ?_ GE695.out) | exact HB.out)) hb); have n6_ := MK (hbox); have n7_ := MK ((by rw [hg]; exact (below_size (by repeat (first | (with_reducible first | exact HB.out | apply lA | apply lN | apply lD | refine lS ?_ GE679.out | refine lS ?_ GE680.out | refine lS ?_ GE681.out | refine lS ?_ GE688.out | refine lS ?_ GE695.out) | exact HB.out))) : w.heap.size ≤ gb712)); have n8_ := MK ((by rw [hg]; exact (below_size (by repeat (first | (with_reducible first | exact HB.out | apply lA | apply lN | apply lD | refine lS ?_ GE679.out | refine lS ?_ GE680.out | refine lS ?_ GE681.out | refine lS ?_ GE688.out | refine lS ?_ GE695.out) | exact HB.out))) : w.heap.size ≤ gb712)); have n9_ := MK ((by rw [hg]; exact Nat.ne_of_lt (blk_lt (by (with_reducible repeat (first | refine bN ?_ _ | refine bD ?_ | refine bA ?_ _)); exact BK679.out)) : gb679 ≠ gb712)); have n10_ := MK ((by rw [hg]; exact Nat.ne_of_gt (blk_lt (by (with_reducible repeat (first | refine bN ?_ _ | refine bD ?_ | refine bA ?_ _)); exact BK679.out)) : gb712 ≠ gb679)); have n11_ := MK ((by rw [hg]; exact Nat.ne_of_lt (blk_lt (by (with_reducible repeat (first | refine bN ?_ _ | refine bD ?_ | refine bA ?_ _)); exact BK680.out)) : gb680 ≠ gb712)); have n12_ := MK ((by rw [hg]; exact Nat.ne_of_gt (blk_lt (by (with_reducible repeat (first | refine bN ?_ _ | refine bD ?_ | refine bA ?_ _)); exact BK680.out)) : gb712 ≠ gb680)); have n13_ := MK ((by rw [hg]; exact Nat.ne_of_lt (blk_lt (by (with_reducible repeat (first | refine bN ?_ _ | refine bD ?_ | refine bA ?_ _)); exact BK681.out)) : gb681 ≠ gb712)); have n14_ := MK ((by rw [hg]; exact Nat.ne_of_gt (blk_lt (by (with_reducible repeat (first | refine bN ?_ _ | refine bD ?_ | refine bA ?_ _)); exact BK681.out)) : gb712 ≠ gb681)); have n15_ := MK ((by rw [hg]; exact Nat.ne_of_lt (blk_lt (by (with_reducible repeat (first | refine bN ?_ _ | refine bD ?_ | refine bA ?_ _)); exact BK688.out)) : gb688 ≠ gb712)); have n16_ := MK ((by rw [hg]; exact Nat.ne_of_gt (blk_lt (by (with_reducible repeat (first | refine bN ?_ _ | refine bD ?_ | refine bA ?_ _)); exact BK688.out)) : gb712 ≠ gb688)); have n17_ := MK ((by rw [hg]; exact Nat.ne_of_lt (blk_lt (by (with_reducible repeat (first | refine bN ?_ _ | refine bD ?_ | refine bA ?_ _)); exact BK695.out)) : gb695 ≠ gb712)); have n18_ := MK ((by rw [hg]; exact Nat.ne_of_gt (blk_lt (by (with_reducible repeat (first | refine bN ?_ _ | refine bD ?_ | refine bA ?_ _)); exact BK695.out)) : gb712 ≠ gb695)); clear BK679; clear BK680; clear BK681; clear BK688; clear BK695; clear HB; have BK679 := n0_; have BK680 := n1_; have BK681 := n2_; have BK688 := n3_; have BK695 := n4_; have HB := n5_; have BK712 := n6_; have GW712 := n7_; have GE712 := n8_; have NB679_712 := n9_; have NB712_679 := n10_; have NB680_712 := n11_; have NB712_680 := n12_; have NB681_712 := n13_; have NB712_681 := n14_; have NB688_712 := n15_; have NB712_688 := n16_; have NB695_712 := n17_; have NB712_695 := n18_; clear n0_ n1_ n2_ n3_ n4_ n5_ n6_ n7_ n8_ n9_ n10_ n11_ n12_ n13_ n14_ n15_ n16_ n17_ n18_; clear hb hbox hg; have hnb207 := NB712_679.out; have hnc207 := NB679_712.out; have hnb208 := NB712_680.out; have hnc208 := NB680_712.out; have hnb209 := NB712_681.out; have hnc209 := NB681_712.out; have hnb210 := NB712_688.out; have hnc210 := NB688_712.out; have hnb211 := NB712_695.out; have hnc211 := NB695_712.out; obtain ⟨hcz212_0, hcz212_1, hcz212_2, hcz212_3, hcz212_4, hcz212_5⟩ := bc6 BK712.out; obtain ⟨hfz212_0, hfz212_1, hfz212_2, hfz212_3, hfz212_4, hfz212_5⟩ := bf6 BK712.out; obtain ⟨hcz213_0, hcz213_1, hcz213_2, hcz213_3, hcz213_4⟩ := bc5 BK695.out; obtain ⟨hfz213_0, hfz213_1, hfz213_2, hfz213_3, hfz213_4⟩ := bf5 BK695.out))
            go_ret
            exact ⟨by first | rfl | (simp [errW_none, errW_some] <;> rfl) | (simp [*, errW_none, errW_some] <;> rfl), by repeat (first | (with_reducible first | exact HB.out | apply lA | apply lN | apply lD | refine lS ?_ GE679.out | refine lS ?_ GE680.out | refine lS ?_ GE681.out | refine lS ?_ GE688.out | refine lS ?_ GE695.out | refine lS ?_ GE712.out) | exact HB.out)⟩
        ·rw [if_neg c137] at H
         have c137b0 : ((Int.tmod t696 3) == 1) = false := beq_eq_false_iff_ne.mpr c137
         have c137b1 : ((Int.tmod t696 3) != 1) = true := bne_iff_ne.mpr c137
         replace H := Option.bind_eq_some_iff.mp H
         obtain ⟨t713, A2140, H⟩ := H
         replace H : (if (wrap64 (t674 + 1)) = 0 then (none) else ((impl_Tick.f kj7 t667 t668 t669 t670 t671 t672 t673 (wrap64 (t674 - (Int.tmod t713 (wrap64 (t674 + 1))))) t675 t676 t677 t678).bind fun bt714 => (if bt714.1 = true then (some (bt714.2.1 != 3)) else (if t676 > 100000000 then (some true) else (some false))))) = some r := H
         have A214 := MK A2140
         clear A2140
         by_cases c215 : (wrap64 (t674 + 1)) = 0
         ·rw [if_pos c215] at H
          exact absurd H (by simp)
         ·rw [if_neg c215] at H
          have c215b0 : ((wrap64 (t674 + 1)) == 0) = false := beq_eq_false_iff_ne.mpr c215
          have c215b1 : ((wrap64 (t674 + 1)) != 0) = true := bne_iff_ne.mpr c215
          replace H := Option.bind_eq_some_iff.mp H
          obtain ⟨⟨t714, t715, t716, t717, t718, t719⟩, A2160, H⟩ := H
          replace H : (if t714 = true then (some (t715 != 3)) else (if t676 > 100000000 then (some true) else (some false))) = some r := H
          have A216 := MK A2160
          clear A2160
          by_cases c217 : t714 = true
          ·subst c217
           have H1 : (some (t715 != 3)) = some r := by rw [if_pos rfl] at H; exact H
           clear H
           have H := H1
           clear H1
           obtain rfl := Option.some.inj H
           try go_wp2
           have n0_ : Aside0 ((((((w55.setCell ⟨gb695, 0, none⟩ (.int .i64 t674)).setCell ⟨gb695, 1, none⟩ (.int .i64 t675)).setCell ⟨gb695, 2, none⟩ (.int .i64 t676)).setCell ⟨gb695, 3, none⟩ (.int .i64 t677)).setCell ⟨gb695, 4, none⟩ (.bool t678)).heap[gb679]? = some (.cells #[.int .i64 t667, .int .i64 t668, .int .i64 t669, .int .i64 t670, .int .i64 t671] 24 (0, 0))) := ⟨by refine blk_far ?_ NB679_695.out _; refine blk_far ?_ NB679_695.out _; refine blk_far ?_ NB679_695.out _; refine blk_far ?_ NB679_695.out _; refine blk_far ?_ NB679_695.out _; (with_reducible repeat (first | refine bN ?_ _ | refine bD ?_ | refine bA ?_ _)); exact BK679.out⟩
           have n1_ : Aside0 ((((((w55.setCell ⟨gb695, 0, none⟩ (.int .i64 t674)).setCell ⟨gb695, 1, none⟩ (.int .i64 t675)).setCell ⟨gb695, 2, none⟩ (.int .i64 t676)).setCell ⟨gb695, 3, none⟩ (.int .i64 t677)).setCell ⟨gb695, 4, none⟩ (.bool t678)).heap[gb680]? = some (.cells #[.int .i64 t672, .int .i64 t673] 31 (0, 0))) := ⟨by refine blk_far ?_ NB680_695.out _; refine blk_far ?_ NB680_695.out _; refine blk_far ?_ NB680_695.out _; refine blk_far ?_ NB680_695.out _; refine blk_far ?_ NB680_695.out _; (with_reducible repeat (first | refine bN ?_ _ | refine bD ?_ | refine bA ?_ _)); exact BK680.out⟩
           have n2_ : Aside0 ((((((w55.setCell ⟨gb695, 0, none⟩ (.int .i64 t674)).setCell ⟨gb695, 1, none⟩ (.int .i64 t675)).setCell ⟨gb695, 2, none⟩ (.int .i64 t676)).setCell ⟨gb695, 3, none⟩ (.int .i64 t677)).setCell ⟨gb695, 4, none⟩ (.bool t678)).heap[gb681]? = some (.cells #[.int .i64 t674, .int .i64 t675, .int .i64 t676, .int .i64 t677, .bool t678] 44 (0, 0))) := ⟨by refine blk_far ?_ NB681_695.out _; refine blk_far ?_ NB681_695.out _; refine blk_far ?_ NB681_695.out _; refine blk_far ?_ NB681_695.out _; refine blk_far ?_ NB681_695.out _; (with_reducible repeat (first | refine bN ?_ _ | refine bD ?_ | refine bA ?_ _)); exact BK681.out⟩
           have n3_ : Aside0 ((((((w55.setCell ⟨gb695, 0, none⟩ (.int .i64 t674)).setCell ⟨gb695, 1, none⟩ (.int .i64 t675)).setCell ⟨gb695, 2, none⟩ (.int .i64 t676)).setCell ⟨gb695, 3, none⟩ (.int .i64 t677)).setCell ⟨gb695, 4, none⟩ (.bool t678)).heap[gb688]? = some (.cells #[.bool t682, .int .i64 t683, .int .i64 t684, .int .i64 t685, .bool t686, .bool t687] 33 (0, 0))) := ⟨by refine blk_far ?_ NB688_695.out _; refine blk_far ?_ NB688_695.out _; refine blk_far ?_ NB688_695.out _; refine blk_far ?_ NB688_695.out _; refine blk_far ?_ NB688_695.out _; (with_reducible repeat (first | refine bN ?_ _ | refine bD ?_ | refine bA ?_ _)); exact BK688.out⟩
           have n4_ : Aside0 ((((((w55.setCell ⟨gb695, 0, none⟩ (.int .i64 t674)).setCell ⟨gb695, 1, none⟩ (.int .i64 t675)).setCell ⟨gb695, 2, none⟩ (.int .i64 t676)).setCell ⟨gb695, 3, none⟩ (.int .i64 t677)).setCell ⟨gb695, 4, none⟩ (.bool t678)).heap[gb695]? = some (.cells #[.int .i64 t674, .int .i64 t675, .int .i64 t676, .int .i64 t677, .bool t678] 44 (0, 0))) := ⟨by refine blk_put (cs := #[.int .i64 t674, .int .i64 t675, .int .i64 t676, .int .i64 t677, .bool false]) ?_ 4 _ rfl; refine blk_put (cs := #[.int .i64 t674, .int .i64 t675, .int .i64 t676, .int .i64 0, .bool false]) ?_ 3 _ rfl; refine blk_put (cs := #[.int .i64 t674, .int .i64 t675, .int .i64 0, .int .i64 0, .bool false]) ?_ 2 _ rfl; refine blk_put (cs := #[.int .i64 t674, .int .i64 0, .int .i64 0, .int .i64 0, .bool false]) ?_ 1 _ rfl; refine blk_put (cs := #[.int .i64 0, .int .i64 0, .int .i64 0, .int .i64 0, .bool false]) ?_ 0 _ rfl; (with_reducible repeat (first | refine bN ?_ _ | refine bD ?_ | refine bA ?_ _)); exact BK695.out⟩
           have n5_ : Aside0 (Below w.heap.size w (((((w55.setCell ⟨gb695, 0, none⟩ (.int .i64 t674)).setCell ⟨gb695, 1, none⟩ (.int .i64 t675)).setCell ⟨gb695, 2, none⟩ (.int .i64 t676)).setCell ⟨gb695, 3, none⟩ (.int .i64 t677)).setCell ⟨gb695, 4, none⟩ (.bool t678))) := ⟨by repeat (first | (with_reducible first | exact HB.out | apply lA | apply lN | apply lD | refine lS ?_ GE679.out | refine lS ?_ GE680.out | refine lS ?_ GE681.out | refine lS ?_ GE688.out | refine lS ?_ GE695.out) | exact HB.out)⟩
           (try clear BK679)
           (try clear BK680)
           (try clear BK681)
           (try clear BK688)
           (try clear BK695)
           (try clear HB)
           generalize (((((w55.setCell ⟨gb695, 0, none⟩ (.int .i64 t674)).setCell ⟨gb695, 1, none⟩ (.int .i64 t675)).setCell ⟨gb695, 2, none⟩ (.int .i64 t676)).setCell ⟨gb695, 3, none⟩ (.int .i64 t677)).setCell ⟨gb695, 4, none⟩ (.bool t678)) = w218 at n0_ n1_ n2_ n3_ n4_ n5_ ⊢
           have n0_ := MK (bN n0_.out nd)
           have n1_ := MK (bN n1_.out nd)
           have n2_ := MK (bN n2_.out nd)
           have n3_ := MK (bN n3_.out nd)
           have n4_ := MK (bN n4_.out nd)
           have n5_ := MK (lN n5_.out nd)
           generalize w218.drewN nd = w218 at n0_ n1_ n2_ n3_ n4_ n5_ ⊢
           have BK679 := n0_
           have BK680 := n1_
           have BK681 := n2_
           have BK688 := n3_
           have BK695 := n4_
           have HB := n5_
           clear n0_ n1_ n2_ n3_ n4_ n5_
           have n0_ := MK (bD BK679.out)
           have n1_ := MK (bD BK680.out)
           have n2_ := MK (bD BK681.out)
           have n3_ := MK (bD BK688.out)
           have n4_ := MK (bD BK695.out)
           have n5_ := MK (lD HB.out)
           clear BK679
           clear BK680
           clear BK681
           clear BK688
           clear BK695
           clear HB
           have BK679 := n0_
           have BK680 := n1_
           have BK681 := n2_
           have BK688 := n3_
           have BK695 := n4_
           have HB := n5_
           clear n0_ n1_ n2_ n3_ n4_ n5_
           refine start_ (n := 11) (S := fun w' => w'.cell? ⟨gb695, 0, none⟩ = some (.int .i64 t674) ∧ w'.cell? ⟨gb695, 1, none⟩ = some (.int .i64 t675) ∧ w'.cell? ⟨gb695, 2, none⟩ = some (.int .i64 t676) ∧ w'.cell? ⟨gb695, 3, none⟩ = some (.int .i64 t677) ∧ w'.cell? ⟨gb695, 4, none⟩ = some (.bool t678) ∧ w'.cell? ⟨gb681, 0, none⟩ = some (.int .i64 t674) ∧ w'.cell? ⟨gb681, 1, none⟩ = some (.int .i64 t675) ∧ w'.cell? ⟨gb681, 2, none⟩ = some (.int .i64 t676) ∧ w'.cell? ⟨gb681, 3, none⟩ = some (.int .i64 t677) ∧ w'.cell? ⟨gb681, 4, none⟩ = some (.bool t678)) (ds := [10]) #[false, false, false, false, false, false, false, false, false, false, false] (by kernel_rfl) rfl rfl ⟨(blk_cell BK695.out 0).trans rfl, (blk_cell BK695.out 1).trans rfl, (blk_cell BK695.out 2).trans rfl, (blk_cell BK695.out 3).trans rfl, (blk_cell BK695.out 4).trans rfl, (blk_cell BK681.out 0).trans rfl, (blk_cell BK681.out 1).trans rfl, (blk_cell BK681.out 2).trans rfl, (blk_cell BK681.out 3).trans rfl, (blk_cell BK681.out 4).trans rfl⟩ (fun hHeld => ?_); refine with_tabW laws_FnLonger.tab9 laws_FnLonger.bits9 (fun HT_ HW_ => ?_)
           generalize w218.drew = w219 at BK679 BK680 BK681 BK688 BK695 HB hHeld ⊢
           refine pure_ (i := 0) (N := some 53) (v := ?_) (a' := ?_) #[true, false, false, false, false, false, false, false, false, false, false] rfl rfl (any_of HT_.out (by kernel_rfl)) (fun _ _ _ h => h) (Or.inl ⟨by rfl, ?_⟩) ?_ ?_
           rotate_left
           ·intro w'; go_simp; with_reducible rfl
           rotate_left
           ·simp only [Act.put, List.setIfInBounds_toArray, List.set_cons_zero, List.set_cons_succ, i64_w, i32_w]; rfl
           refine pure_ (i := 2) (N := some 55) (v := ?_) (a' := ?_) #[true, false, true, false, false, false, false, false, false, false, false] rfl rfl (any_of HT_.out (by kernel_rfl)) (fun _ _ _ h => h) (Or.inl ⟨by rfl, ?_⟩) ?_ ?_
           rotate_left
           ·intro w'; go_simp; with_reducible rfl
           rotate_left
           ·simp only [Act.put, List.setIfInBounds_toArray, List.set_cons_zero, List.set_cons_succ, i64_w, i32_w]; rfl
           refine pure_ (i := 4) (N := some 57) (v := ?_) (a' := ?_) #[true, false, true, false, true, false, false, false, false, false, false] rfl rfl (any_of HT_.out (by kernel_rfl)) (fun _ _ _ h => h) (Or.inl ⟨by rfl, ?_⟩) ?_ ?_
           rotate_left
           ·intro w'; go_simp; with_reducible rfl
           rotate_left
           ·simp only [Act.put, List.setIfInBounds_toArray, List.set_cons_zero, List.set_cons_succ, i64_w, i32_w]; rfl
           refine take_ (i := 1) (N := some 54) (v := ?_) (a' := ?_) #[true, true, true, false, true, false, false, false, false, false, false] rfl rfl (take_ofW HT_.out HW_.out (by kernel_rfl)) (fun _ _ _ h => h) (Or.inl ⟨by rfl, ?_⟩) hHeld ?_ ?_
           rotate_left
           ·rintro w' ⟨s0, s1, s2, s3, s4, s5, s6, s7, s8, s9⟩; go_simp; with_reducible rfl
           rotate_left
           ·simp only [Act.put, List.setIfInBounds_toArray, List.set_cons_zero, List.set_cons_succ, i64_w, i32_w]; rfl
           refine take_ (i := 5) (N := some 58) (v := ?_) (a' := ?_) #[true, true, true, false, true, true, false, false, false, false, false] rfl rfl (take_ofW HT_.out HW_.out (by kernel_rfl)) (fun _ _ _ h => h) (Or.inl ⟨by rfl, ?_⟩) hHeld ?_ ?_
           rotate_left
           ·rintro w' ⟨s0, s1, s2, s3, s4, s5, s6, s7, s8, s9⟩; go_simp; with_reducible rfl
           rotate_left
           ·simp only [Act.put, List.setIfInBounds_toArray, List.set_cons_zero, List.set_cons_succ, i64_w, i32_w]; rfl
           refine pure_ (i := 6) (N := some 59) (v := ?_) (a' := ?_) #[true, true, true, false, true, true, true, false, false, false, false] rfl rfl (any_of HT_.out (by kernel_rfl)) (fun _ _ _ h => h) (Or.inl ⟨by rfl, ?_⟩) ?_ ?_
           rotate_left
           ·intro w'; go_simp; with_reducible rfl
           rotate_left
           ·simp only [Act.put, List.setIfInBounds_toArray, List.set_cons_zero, List.set_cons_succ, i64_w, i32_w]; rfl
           refine one_ (i := 3) (N := some 56) #[true, true, true, true, true, true, true, false, false, false, false] rfl rfl (one_of HT_.out (by kernel_rfl)) (by decide) (fun K hK => ?_)
           refine goes_ Try.func11 (by kernel_rfl) rfl #[.slice A1 l1.length c1, .int .i64 1] (by rfl) rfl rfl (by (try simp only [List.map_toArray, List.map_cons, List.map_nil]); first | done | rfl | (simp only [List.length_drop, List.length_take]; rfl)) ?_
           with_reducible refine (laws_wByte.calls _ _ l1 1 t713 _ ?side1 ?side2 A214.out).mono ?_
           (case side1 => repeat (first | exact (Kd.C_below HR1.out HB.out) | (with_reducible refine Kd.C_alloc ?_ _) | (with_reducible refine Kd.C_drewN ?_ _) | (with_reducible refine Kd.C_drew ?_)))
           (case side2 => exact HC1.out)
           rintro e w' ⟨rfl, ⟨nd, rfl⟩⟩
           refine ⟨_, rfl, ?_⟩
           refine hK.out _ _ ⟨(blk_cell BK695.out 0).trans rfl, (blk_cell BK695.out 1).trans rfl, (blk_cell BK695.out 2).trans rfl, (blk_cell BK695.out 3).trans rfl, (blk_cell BK695.out 4).trans rfl, (blk_cell BK681.out 0).trans rfl, (blk_cell BK681.out 1).trans rfl, (blk_cell BK681.out 2).trans rfl, (blk_cell BK681.out 3).trans rfl, (blk_cell BK681.out 4).trans rfl⟩ (fun hHeld => ?_)
           clear hK K
           refine norm_ (a' := ?_) ?_ ?_
           rotate_left
           ·show Act.put _ (some 56) _ = _; simp only [Act.put, List.setIfInBounds_toArray, List.set_cons_zero, List.set_cons_succ, i64_w, i32_w]; rfl
           refine pure_ (i := 7) (N := some 60) (v := ?_) (a' := ?_) #[true, true, true, true, true, true, true, true, false, false, false] rfl rfl (any_of HT_.out (by kernel_rfl)) (fun _ _ _ h => h) (Or.inl ⟨by rfl, ?_⟩) ?_ ?_
           rotate_left
           ·intro w'; go_simp; with_reducible rfl
           rotate_left
           ·simp only [Act.put, List.setIfInBounds_toArray, List.set_cons_zero, List.set_cons_succ, i64_w, i32_w]; rfl
           refine pure_ (i := 8) (N := some 61) (v := ?_) (a' := ?_) #[true, true, true, true, true, true, true, true, true, false, false] rfl rfl (any_of HT_.out (by kernel_rfl)) (fun _ _ _ h => h) (Or.inl ⟨by rfl, ?_⟩) ?_ ?_
           rotate_left
           ·intro w'; go_simp; with_reducible rfl
           rotate_left
           ·simp only [Act.put, List.setIfInBounds_toArray, List.set_cons_zero, List.set_cons_succ, i64_w, i32_w]; rfl
           refine pure_ (i := 9) (N := some 62) (v := ?_) (a' := ?_) #[true, true, true, true, true, true, true, true, true, true, false] rfl rfl (any_of HT_.out (by kernel_rfl)) (fun _ _ _ h => h) (Or.inl ⟨by rfl, ?_⟩) ?_ ?_
           rotate_left
           ·intro w'; go_simp; with_reducible rfl
           rotate_left
           ·simp only [Act.put, List.setIfInBounds_toArray, List.set_cons_zero, List.set_cons_succ, i64_w, i32_w]; rfl
           refine last_ (i := 10) (N := none) #[true, true, true, true, true, true, true, true, true, true, true] rfl rfl (one_of HT_.out (by kernel_rfl)) (by decide) (fun K hK => ?_)
           have hs220 : w219.cell? ⟨gb695, 0, none⟩ = some (.int .i64 t674) := (blk_cell BK695.out 0).trans rfl
           have hfs220 := blk_frozen BK695.out 0
           have hns220_0 := NB679_695.out
           have hns220_1 := NB680_695.out
           have hns220_2 := NB681_695.out
           have hns220_3 := NB688_695.out
           have hms220_0 := NB695_679.out
           have hms220_1 := NB695_680.out
           have hms220_2 := NB695_681.out
           have hms220_3 := NB695_688.out
           refine skip_ (w1 := ?_) (by rfl) rfl ?_ ?_
           rotate_left
           ·go_simp
            rfl
           refine hK.out _ _ ?_
           clear hK K
           refine done_ (done_of HT_.out (by kernel_rfl)) ?_
           have hnb221 := NB679_680.out
           have hnc221 := NB680_679.out
           have hnb222 := NB679_681.out
           have hnc222 := NB681_679.out
           have hnb223 := NB679_688.out
           have hnc223 := NB688_679.out
           have hnb224 := NB679_695.out
           have hnc224 := NB695_679.out
           obtain ⟨hcz225_0, hcz225_1, hcz225_2, hcz225_3, hcz225_4⟩ := bc5 BK679.out
           obtain ⟨hfz225_0, hfz225_1, hfz225_2, hfz225_3, hfz225_4⟩ := bf5 BK679.out
           have hnb226 := NB680_681.out
           have hnc226 := NB681_680.out
           have hnb227 := NB680_688.out
           have hnc227 := NB688_680.out
           have hnb228 := NB680_695.out
           have hnc228 := NB695_680.out
           obtain ⟨hcz229_0, hcz229_1⟩ := bc2 BK680.out
           obtain ⟨hfz229_0, hfz229_1⟩ := bf2 BK680.out
           have hnb230 := NB695_681.out
           have hnc230 := NB681_695.out
           have hnb231 := NB695_688.out
           have hnc231 := NB688_695.out
           obtain ⟨hcz232_0, hcz232_1, hcz232_2, hcz232_3, hcz232_4⟩ := bc5 BK695.out
           obtain ⟨hfz232_0, hfz232_1, hfz232_2, hfz232_3, hfz232_4⟩ := bf5 BK695.out
           try go_wp2_with (first | ((with_reducible refine gate_callee (f := 21) rfl ?_); refine goesL_ (some 86) rfl rfl Try.func21 (by kernel_rfl) rfl #[.agg #[.int .i64 t667, .int .i64 t668, .int .i64 t669, .int .i64 t670, .int .i64 t671], .agg #[.int .i64 t672, .int .i64 t673], .agg #[.int .i64 (wrap64 (t674 - (Int.tmod t713 (wrap64 (t674 + 1))))), .int .i64 t675, .int .i64 t676, .int .i64 t677, .bool t678]] rfl (by (try simp only [List.map_toArray, List.map_cons, List.map_nil]); first | done | rfl | (simp only [List.length_drop, List.length_take]; rfl)) ?_; (with_reducible refine (impl_Tick.calls kj7 t667 t668 t669 t670 t671 t672 t673 (wrap64 (t674 - (Int.tmod t713 (wrap64 (t674 + 1))))) t675 t676 t677 t678 true t715 t716 t717 t718 t719 _ A216.out).mono ?_); rintro e w233 ⟨rfl, hb⟩; refine ⟨_, rfl, ?_⟩; have n0_ := MK (blk_below (g := gb679) (o := .cells #[.int .i64 t667, .int .i64 t668, .int .i64 t669, .int .i64 t670, .int .i64 t671] 24 (0, 0)) (by (with_reducible repeat (first | refine bN ?_ _ | refine bD ?_ | refine bA ?_ _)); refine blk_far ?_ NB679_695.out _; (with_reducible repeat (first | refine bN ?_ _ | refine bD ?_ | refine bA ?_ _)); exact BK679.out) hb); have n1_ := MK (blk_below (g := gb680) (o := .cells #[.int .i64 t672, .int .i64 t673] 31 (0, 0)) (by (with_reducible repeat (first | refine bN ?_ _ | refine bD ?_ | refine bA ?_ _)); refine blk_far ?_ NB680_695.out _; (with_reducible repeat (first | refine bN ?_ _ | refine bD ?_ | refine bA ?_ _)); exact BK680.out) hb); have n2_ := MK (blk_below (g := gb681) (o := .cells #[.int .i64 t674, .int .i64 t675, .int .i64 t676, .int .i64 t677, .bool t678] 44 (0, 0)) (by (with_reducible repeat (first | refine bN ?_ _ | refine bD ?_ | refine bA ?_ _)); refine blk_far ?_ NB681_695.out _; (with_reducible repeat (first | refine bN ?_ _ | refine bD ?_ | refine bA ?_ _)); exact BK681.out) hb); have n3_ := MK (blk_below (g := gb688) (o := .cells #[.bool t682, .int .i64 t683, .int .i64 t684, .int .i64 t685, .bool t686, .bool t687] 33 (0, 0)) (by (with_reducible repeat (first | refine bN ?_ _ | refine bD ?_ | refine bA ?_ _)); refine blk_far ?_ NB688_695.out _; (with_reducible repeat (first | refine bN ?_ _ | refine bD ?_ | refine bA ?_ _)); exact BK688.out) hb); have n4_ := MK (blk_below (g := gb695) (o := .cells #[.int .i64 (wrap64 (t674 - (Int.tmod t713 (wrap64 (t674 + 1))))), .int .i64 t675, .int .i64 t676, .int .i64 t677, .bool t678] 44 (0, 0)) (by (with_reducible repeat (first | refine bN ?_ _ | refine bD ?_ | refine bA ?_ _)); refine blk_put (cs := #[.int .i64 t674, .int .i64 t675, .int .i64 t676, .int .i64 t677, .bool t678]) ?_ 0 _ rfl; (with_reducible repeat (first | refine bN ?_ _ | refine bD ?_ | refine bA ?_ _)); exact BK695.out) hb); have n5_ := MK (below_step (by repeat (first | (with_reducible first | exact HB.out | apply lA | apply lN | apply lD | refine lS ?_ GE679.out | refine lS ?_ GE680.out | refine lS ?_ GE681.out | refine lS ?_ GE688.out | refine lS ?_ GE695.out) | exact HB.out)) hb); clear BK679; clear BK680; clear BK681; clear BK688; clear BK695; clear HB; have BK679 := n0_; have BK680 := n1_; have BK681 := n2_; have BK688 := n3_; have BK695 := n4_; have HB := n5_; clear n0_ n1_ n2_ n3_ n4_ n5_; (try clear hb); (try clear hb2); (try clear hk); (try clear hi)) | ((with_reducible refine gate_dst (N := 10) rfl ?_); (try (refine gate_guard (by rfl) ?_; dsimp only)); refine box_event ?hg (N := 10) ?hd (cs := #[.bool false, .int .i64 0, .int .i64 0, .int .i64 0, .bool false, .bool false]) (t := 33) ?hr ?_; (case hd => rfl); (case hg => rfl); (case hr => first | (go_simp; done) | (go_simp; rfl)); intro gb720 hg w234 hbox hb; have n0_ := MK (blk_below (by (with_reducible repeat (first | refine bN ?_ _ | refine bD ?_ | refine bA ?_ _)); exact BK679.out) hb); have n1_ := MK (blk_below (by (with_reducible repeat (first | refine bN ?_ _ | refine bD ?_ | refine bA ?_ _)); exact BK680.out) hb); have n2_ := MK (blk_below (by (with_reducible repeat (first | refine bN ?_ _ | refine bD ?_ | refine bA ?_ _)); exact BK681.out) hb); have n3_ := MK (blk_below (by (with_reducible repeat (first | refine bN ?_ _ | refine bD ?_ | refine bA ?_ _)); exact BK688.out) hb); have n4_ := MK (blk_below (by (with_reducible repeat (first | refine bN ?_ _ | refine bD ?_ | refine bA ?_ _)); exact BK695.out) hb); have n5_ := MK (below_step (by repeat (first | (with_reducible first | exact HB.out | apply lA | apply lN | apply lD | refine lS ?_ GE679.out | refine lS ?_ GE680.out | refine lS ?_ GE681.out | refine lS ?_ GE688.out | refine lS ?_ GE695.out) | exact HB.out)) hb); have n6_ := MK (hbox); have n7_ := MK ((by rw [hg]; exact (below_size (by repeat (first | (with_reducible first | exact HB.out | apply lA | apply lN | apply lD | refine lS ?_ GE679.out | refine lS ?_ GE680.out | refine lS ?_ GE681.out | refine lS ?_ GE688.out | refine lS ?_ GE695.out) | exact HB.out))) : w.heap.size ≤ gb720)); have n8_ := MK ((by rw [hg]; exact (below_size (by repeat (first | (with_reducible first | exact HB.out | apply lA | apply lN | apply lD | refine lS ?_ GE679.out | refine lS ?_ GE680.out | refine lS ?_ GE681.out | refine lS ?_ GE688.out | refine lS ?_ GE695.out) | exact HB.out))) : w.heap.size ≤ gb720)); have n9_ := MK ((by rw [hg]; exact Nat.ne_of_lt (blk_lt (by (with_reducible repeat (first | refine bN ?_ _ | refine bD ?_ | refine bA ?_ _)); exact BK679.out)) : gb679 ≠ gb720)); have n10_ := MK ((by rw [hg]; exact Nat.ne_of_gt (blk_lt (by (with_reducible repeat (first | refine bN ?_ _ | refine bD ?_ | refine bA ?_ _)); exact BK679.out)) : gb720 ≠ gb679)); have n11_ := MK ((by rw [hg]; exact Nat.ne_of_lt (blk_lt (by (with_reducible repeat (first | refine bN ?_ _ | refine bD ?_ | refine bA ?_ _)); exact BK680.out)) : gb680 ≠ gb720)); have n12_ := MK ((by rw [hg]; exact Nat.ne_of_gt (blk_lt (by (with_reducible repeat (first | refine bN ?_ _ | refine bD ?_ | refine bA ?_ _)); exact BK680.out)) : gb720 ≠ gb680)); have n13_ := MK ((by rw [hg]; exact Nat.ne_of_lt (blk_lt (by (with_reducible repeat (first | refine bN ?_ _ | refine bD ?_ | refine bA ?_ _)); exact BK681.out)) : gb681 ≠ gb720)); have n14_ := MK ((by rw [hg]; exact Nat.ne_of_gt (blk_lt (by (with_reducible repeat (first | refine bN ?_ _ | refine bD ?_ | refine bA ?_ _)); exact BK681.out)) : gb720 ≠ gb681)); have n15_ := MK ((by rw [hg]; exact Nat.ne_of_lt (blk_lt (by (with_reducible repeat (first | refine bN ?_ _ | refine bD ?_ | refine bA ?_ _)); exact BK688.out)) : gb688 ≠ gb720)); have n16_ := MK ((by rw [hg]; exact Nat.ne_of_gt (blk_lt (by (with_reducible repeat (first | refine bN ?_ _ | refine bD ?_ | refine bA ?_ _)); exact BK688.out)) : gb720 ≠ gb688)); have n17_ := MK ((by rw [hg]; exact Nat.ne_of_lt (blk_lt (by (with_reducible repeat (first | refine bN ?_ _ | refine bD ?_ | refine bA ?_ _)); exact BK695.out)) : gb695 ≠ gb720)); have n18_ := MK ((by rw [hg]; exact Nat.ne_of_gt (blk_lt (by (with_reducible repeat (first | refine bN ?_ _ | refine bD ?_ | refine bA ?_ _)); exact BK695.out)) : gb720 ≠ gb695)); clear BK679; clear BK680; clear BK681; clear BK688; clear BK695; clear HB; have BK679 := n0_; have BK680 := n1_; have BK681 := n2_; have BK688 := n3_; have BK695 := n4_; have HB := n5_; have BK720 := n6_; have GW720 := n7_; have GE720 := n8_; have NB679_720 := n9_; have NB720_679 := n10_; have NB680_720 := n11_; have NB720_680 := n12_; have NB681_720 := n13_; have NB720_681 := n14_; have NB688_720 := n15_; have NB720_688 := n16_; have NB695_720 := n17_; have NB720_695 := n18_; clear n0_ n1_ n2_ n3_ n4_ n5_ n6_ n7_ n8_ n9_ n10_ n11_ n12_ n13_ n14_ n15_ n16_ n17_ n18_; clear hb hbox hg; have hnb235 := NB720_679.out; have hnc235 := NB679_720.out; have hnb236 := NB720_680.out; have hnc236 := NB680_720.out; have hnb237 := NB720_681.out; have hnc237 := NB681_720.out; have hnb238 := NB720_688.out; have hnc238 := NB688_720.out; have hnb239 := NB720_695.out; have hnc239 := NB695_720.out; obtain ⟨hcz240_0, hcz240_1, hcz240_2, hcz240_3, hcz240_4, hcz240_5⟩ := bc6 BK720.out; obtain ⟨hfz240_0, hfz240_1, hfz240_2, hfz240_3, hfz240_4, hfz240_5⟩ := bf6 BK720.out))
           go_ret
           exact ⟨by first | rfl | (simp [errW_none, errW_some] <;> rfl) | (simp [*, errW_none, errW_some] <;> rfl), by repeat (first | (with_reducible first | exact HB.out | apply lA | apply lN | apply lD | refine lS ?_ GE679.out | refine lS ?_ GE680.out | refine lS ?_ GE681.out | refine lS ?_ GE688.out | refine lS ?_ GE695.out | refine lS ?_ GE720.out) | exact HB.out)⟩
          ·replace c217 := Bool.eq_false_iff.mpr c217
           subst c217
           have H1 : (if t676 > 100000000 then (some true) else (some false)) = some r := by rw [if_neg (show ¬ (false = true) by decide)] at H; exact H
           clear H
           have H := H1
           clear H1
           by_cases c241 : t676 > 100000000
           ·rw [if_pos c241] at H
            have c241b0 : decide (100000000 < t676) = true := decide_eq_true c241
            clear c241
            obtain rfl := Option.some.inj H
            try go_wp2
            have n0_ : Aside0 ((((((w55.setCell ⟨gb695, 0, none⟩ (.int .i64 t674)).setCell ⟨gb695, 1, none⟩ (.int .i64 t675)).setCell ⟨gb695, 2, none⟩ (.int .i64 t676)).setCell ⟨gb695, 3, none⟩ (.int .i64 t677)).setCell ⟨gb695, 4, none⟩ (.bool t678)).heap[gb679]? = some (.cells #[.int .i64 t667, .int .i64 t668, .int .i64 t669, .int .i64 t670, .int .i64 t671] 24 (0, 0))) := ⟨by refine blk_far ?_ NB679_695.out _; refine blk_far ?_ NB679_695.out _; refine blk_far ?_ NB679_695.out _; refine blk_far ?_ NB679_695.out _; refine blk_far ?_ NB679_695.out _; (with_reducible repeat (first | refine bN ?_ _ | refine bD ?_ | refine bA ?_ _)); exact BK679.out⟩
            have n1_ : Aside0 ((((((w55.setCell ⟨gb695, 0, none⟩ (.int .i64 t674)).setCell ⟨gb695, 1, none⟩ (.int .i64 t675)).setCell ⟨gb695, 2, none⟩ (.int .i64 t676)).setCell ⟨gb695, 3, none⟩ (.int .i64 t677)).setCell ⟨gb695, 4, none⟩ (.bool t678)).heap[gb680]? = some (.cells #[.int .i64 t672, .int .i64 t673] 31 (0, 0))) := ⟨by refine blk_far ?_ NB680_695.out _; refine blk_far ?_ NB680_695.out _; refine blk_far ?_ NB680_695.out _; refine blk_far ?_ NB680_695.out _; refine blk_far ?_ NB680_695.out _; (with_reducible repeat (first | refine bN ?_ _ | refine bD ?_ | refine bA ?_ _)); exact BK680.out⟩
            have n2_ : Aside0 ((((((w55.setCell ⟨gb695, 0, none⟩ (.int .i64 t674)).setCell ⟨gb695, 1, none⟩ (.int .i64 t675)).setCell ⟨gb695, 2, none⟩ (.int .i64 t676)).setCell ⟨gb695, 3, none⟩ (.int .i64 t677)).setCell ⟨gb695, 4, none⟩ (.bool t678)).heap[gb681]? = some (.cells #[.int .i64 t674, .int .i64 t675, .int .i64 t676, .int .i64 t677, .bool t678] 44 (0, 0))) := ⟨by refine blk_far ?_ NB681_695.out _; refine blk_far ?_ NB681_695.out _; refine blk_far ?_ NB681_695.out _; refine blk_far ?_ NB681_695.out _; refine blk_far ?_ NB681_695.out _; (with_reducible repeat (first | refine bN ?_ _ | refine bD ?_ | refine bA ?_ _)); exact BK681.out⟩
            have n3_ : Aside0 ((((((w55.setCell ⟨gb695, 0, none⟩ (.int .i64 t674)).setCell ⟨gb695, 1, none⟩ (.int .i64 t675)).setCell ⟨gb695, 2, none⟩ (.int .i64 t676)).setCell ⟨gb695, 3, none⟩ (.int .i64 t677)).setCell ⟨gb695, 4, none⟩ (.bool t678)).heap[gb688]? = some (.cells #[.bool t682, .int .i64 t683, .int .i64 t684, .int .i64 t685, .bool t686, .bool t687] 33 (0, 0))) := ⟨by refine blk_far ?_ NB688_695.out _; refine blk_far ?_ NB688_695.out _; refine blk_far ?_ NB688_695.out _; refine blk_far ?_ NB688_695.out _; refine blk_far ?_ NB688_695.out _; (with_reducible repeat (first | refine bN ?_ _ | refine bD ?_ | refine bA ?_ _)); exact BK688.out⟩
            have n4_ : Aside0 ((((((w55.setCell ⟨gb695, 0, none⟩ (.int .i64 t674)).setCell ⟨gb695, 1, none⟩ (.int .i64 t675)).setCell ⟨gb695, 2, none⟩ (.int .i64 t676)).setCell ⟨gb695, 3, none⟩ (.int .i64 t677)).setCell ⟨gb695, 4, none⟩ (.bool t678)).heap[gb695]? = some (.cells #[.int .i64 t674, .int .i64 t675, .int .i64 t676, .int .i64 t677, .bool t678] 44 (0, 0))) := ⟨by refine blk_put (cs := #[.int .i64 t674, .int .i64 t675, .int .i64 t676, .int .i64 t677, .bool false]) ?_ 4 _ rfl; refine blk_put (cs := #[.int .i64 t674, .int .i64 t675, .int .i64 t676, .int .i64 0, .bool false]) ?_ 3 _ rfl; refine blk_put (cs := #[.int .i64 t674, .int .i64 t675, .int .i64 0, .int .i64 0, .bool false]) ?_ 2 _ rfl; refine blk_put (cs := #[.int .i64 t674, .int .i64 0, .int .i64 0, .int .i64 0, .bool false]) ?_ 1 _ rfl; refine blk_put (cs := #[.int .i64 0, .int .i64 0, .int .i64 0, .int .i64 0, .bool false]) ?_ 0 _ rfl; (with_reducible repeat (first | refine bN ?_ _ | refine bD ?_ | refine bA ?_ _)); exact BK695.out⟩
            have n5_ : Aside0 (Below w.heap.size w (((((w55.setCell ⟨gb695, 0, none⟩ (.int .i64 t674)).setCell ⟨gb695, 1, none⟩ (.int .i64 t675)).setCell ⟨gb695, 2, none⟩ (.int .i64 t676)).setCell ⟨gb695, 3, none⟩ (.int .i64 t677)).setCell ⟨gb695, 4, none⟩ (.bool t678))) := ⟨by repeat (first | (with_reducible first | exact HB.out | apply lA | apply lN | apply lD | refine lS ?_ GE679.out | refine lS ?_ GE680.out | refine lS ?_ GE681.out | refine lS ?_ GE688.out | refine lS ?_ GE695.out) | exact HB.out)⟩
            (try clear BK679)
            (try clear BK680)
            (try clear BK681)
            (try clear BK688)
            (try clear BK695)
            (try clear HB)
            generalize (((((w55.setCell ⟨gb695, 0, none⟩ (.int .i64 t674)).setCell ⟨gb695, 1, none⟩ (.int .i64 t675)).setCell ⟨gb695, 2, none⟩ (.int .i64 t676)).setCell ⟨gb695, 3, none⟩ (.int .i64 t677)).setCell ⟨gb695, 4, none⟩ (.bool t678)) = w242 at n0_ n1_ n2_ n3_ n4_ n5_ ⊢
            have n0_ := MK (bN n0_.out nd)
            have n1_ := MK (bN n1_.out nd)
            have n2_ := MK (bN n2_.out nd)
            have n3_ := MK (bN n3_.out nd)
            have n4_ := MK (bN n4_.out nd)
            have n5_ := MK (lN n5_.out nd)
            generalize w242.drewN nd = w242 at n0_ n1_ n2_ n3_ n4_ n5_ ⊢
            have BK679 := n0_
            have BK680 := n1_
            have BK681 := n2_
            have BK688 := n3_
            have BK695 := n4_
            have HB := n5_
            clear n0_ n1_ n2_ n3_ n4_ n5_
            have n0_ := MK (bD BK679.out)
            have n1_ := MK (bD BK680.out)
            have n2_ := MK (bD BK681.out)
            have n3_ := MK (bD BK688.out)
            have n4_ := MK (bD BK695.out)
            have n5_ := MK (lD HB.out)
            clear BK679
            clear BK680
            clear BK681
            clear BK688
            clear BK695
            clear HB
            have BK679 := n0_
            have BK680 := n1_
            have BK681 := n2_
            have BK688 := n3_
            have BK695 := n4_
            have HB := n5_
            clear n0_ n1_ n2_ n3_ n4_ n5_
            refine start_ (n := 11) (S := fun w' => w'.cell? ⟨gb695, 0, none⟩ = some (.int .i64 t674) ∧ w'.cell? ⟨gb695, 1, none⟩ = some (.int .i64 t675) ∧ w'.cell? ⟨gb695, 2, none⟩ = some (.int .i64 t676) ∧ w'.cell? ⟨gb695, 3, none⟩ = some (.int .i64 t677) ∧ w'.cell? ⟨gb695, 4, none⟩ = some (.bool t678) ∧ w'.cell? ⟨gb681, 0, none⟩ = some (.int .i64 t674) ∧ w'.cell? ⟨gb681, 1, none⟩ = some (.int .i64 t675) ∧ w'.cell? ⟨gb681, 2, none⟩ = some (.int .i64 t676) ∧ w'.cell? ⟨gb681, 3, none⟩ = some (.int .i64 t677) ∧ w'.cell? ⟨gb681, 4, none⟩ = some (.bool t678)) (ds := [10]) #[false, false, false, false, false, false, false, false, false, false, false] (by kernel_rfl) rfl rfl ⟨(blk_cell BK695.out 0).trans rfl, (blk_cell BK695.out 1).trans rfl, (blk_cell BK695.out 2).trans rfl, (blk_cell BK695.out 3).trans rfl, (blk_cell BK695.out 4).trans rfl, (blk_cell BK681.out 0).trans rfl, (blk_cell BK681.out 1).trans rfl, (blk_cell BK681.out 2).trans rfl, (blk_cell BK681.out 3).trans rfl, (blk_cell BK681.out 4).trans rfl⟩ (fun hHeld => ?_); refine with_tabW laws_FnLonger.tab9 laws_FnLonger.bits9 (fun HT_ HW_ => ?_)
            generalize w242.drew = w243 at BK679 BK680 BK681 BK688 BK695 HB hHeld ⊢
            refine pure_ (i := 0) (N := some 53) (v := ?_) (a' := ?_) #[true, false, false, false, false, false, false, false, false, false, false] rfl rfl (any_of HT_.out (by kernel_rfl)) (fun _ _ _ h => h) (Or.inl ⟨by rfl, ?_⟩) ?_ ?_
            rotate_left
            ·intro w'; go_simp; with_reducible rfl
            rotate_left
            ·simp only [Act.put, List.setIfInBounds_toArray, List.set_cons_zero, List.set_cons_succ, i64_w, i32_w]; rfl
            refine pure_ (i := 2) (N := some 55) (v := ?_) (a' := ?_) #[true, false, true, false, false, false, false, false, false, false, false] rfl rfl (any_of HT_.out (by kernel_rfl)) (fun _ _ _ h => h) (Or.inl ⟨by rfl, ?_⟩) ?_ ?_
            rotate_left
            ·intro w'; go_simp; with_reducible rfl
            rotate_left
            ·simp only [Act.put, List.setIfInBounds_toArray, List.set_cons_zero, List.set_cons_succ, i64_w, i32_w]; rfl
            refine pure_ (i := 4) (N := some 57) (v := ?_) (a' := ?_) #[true, false, true, false, true, false, false, false, false, false, false] rfl rfl (any_of HT_.out (by kernel_rfl)) (fun _ _ _ h => h) (Or.inl ⟨by rfl, ?_⟩) ?_ ?_
            rotate_left
            ·intro w'; go_simp; with_reducible rfl
            rotate_left
            ·simp only [Act.put, List.setIfInBounds_toArray, List.set_cons_zero, List.set_cons_succ, i64_w, i32_w]; rfl
            refine take_ (i := 1) (N := some 54) (v := ?_) (a' := ?_) #[true, true, true, false, true, false, false, false, false, false, false] rfl rfl (take_ofW HT_.out HW_.out (by kernel_rfl)) (fun _ _ _ h => h) (Or.inl ⟨by rfl, ?_⟩) hHeld ?_ ?_
            rotate_left
            ·rintro w' ⟨s0, s1, s2, s3, s4, s5, s6, s7, s8, s9⟩; go_simp; with_reducible rfl
            rotate_left
            ·simp only [Act.put, List.setIfInBounds_toArray, List.set_cons_zero, List.set_cons_succ, i64_w, i32_w]; rfl
            refine take_ (i := 5) (N := some 58) (v := ?_) (a' := ?_) #[true, true, true, false, true, true, false, false, false, false, false] rfl rfl (take_ofW HT_.out HW_.out (by kernel_rfl)) (fun _ _ _ h => h) (Or.inl ⟨by rfl, ?_⟩) hHeld ?_ ?_
            rotate_left
            ·rintro w' ⟨s0, s1, s2, s3, s4, s5, s6, s7, s8, s9⟩; go_simp; with_reducible rfl
            rotate_left
            ·simp only [Act.put, List.setIfInBounds_toArray, List.set_cons_zero, List.set_cons_succ, i64_w, i32_w]; rfl
            refine pure_ (i := 6) (N := some 59) (v := ?_) (a' := ?_) #[true, true, true, false, true, true, true, false, false, false, false] rfl rfl (any_of HT_.out (by kernel_rfl)) (fun _ _ _ h => h) (Or.inl ⟨by rfl, ?_⟩) ?_ ?_
            rotate_left
            ·intro w'; go_simp; with_reducible rfl
            rotate_left
            ·simp only [Act.put, List.setIfInBounds_toArray, List.set_cons_zero, List.set_cons_succ, i64_w, i32_w]; rfl
            refine one_ (i := 3) (N := some 56) #[true, true, true, true, true, true, true, false, false, false, false] rfl rfl (one_of HT_.out (by kernel_rfl)) (by decide) (fun K hK => ?_)
            refine goes_ Try.func11 (by kernel_rfl) rfl #[.slice A1 l1.length c1, .int .i64 1] (by rfl) rfl rfl (by (try simp only [List.map_toArray, List.map_cons, List.map_nil]); first | done | rfl | (simp only [List.length_drop, List.length_take]; rfl)) ?_
            with_reducible refine (laws_wByte.calls _ _ l1 1 t713 _ ?side1 ?side2 A214.out).mono ?_
            (case side1 => repeat (first | exact (Kd.C_below HR1.out HB.out) | (with_reducible refine Kd.C_alloc ?_ _) | (with_reducible refine Kd.C_drewN ?_ _) | (with_reducible refine Kd.C_drew ?_)))
            (case side2 => exact HC1.out)
            rintro e w' ⟨rfl, ⟨nd, rfl⟩⟩
            refine ⟨_, rfl, ?_⟩
            refine hK.out _ _ ⟨(blk_cell BK695.out 0).trans rfl, (blk_cell BK695.out 1).trans rfl, (blk_cell BK695.out 2).trans rfl, (blk_cell BK695.out 3).trans rfl, (blk_cell BK695.out 4).trans rfl, (blk_cell BK681.out 0).trans rfl, (blk_cell BK681.out 1).trans rfl, (blk_cell BK681.out 2).trans rfl, (blk_cell BK681.out 3).trans rfl, (blk_cell BK681.out 4).trans rfl⟩ (fun hHeld => ?_)
            clear hK K
            refine norm_ (a' := ?_) ?_ ?_
            rotate_left
            ·show Act.put _ (some 56) _ = _; simp only [Act.put, List.setIfInBounds_toArray, List.set_cons_zero, List.set_cons_succ, i64_w, i32_w]; rfl
            refine pure_ (i := 7) (N := some 60) (v := ?_) (a' := ?_) #[true, true, true, true, true, true, true, true, false, false, false] rfl rfl (any_of HT_.out (by kernel_rfl)) (fun _ _ _ h => h) (Or.inl ⟨by rfl, ?_⟩) ?_ ?_
            rotate_left
            ·intro w'; go_simp; with_reducible rfl
            rotate_left
            ·simp only [Act.put, List.setIfInBounds_toArray, List.set_cons_zero, List.set_cons_succ, i64_w, i32_w]; rfl
            refine pure_ (i := 8) (N := some 61) (v := ?_) (a' := ?_) #[true, true, true, true, true, true, true, true, true, false, false] rfl rfl (any_of HT_.out (by kernel_rfl)) (fun _ _ _ h => h) (Or.inl ⟨by rfl, ?_⟩) ?_ ?_
            rotate_left
            ·intro w'; go_simp; with_reducible rfl
            rotate_left
            ·simp only [Act.put, List.setIfInBounds_toArray, List.set_cons_zero, List.set_cons_succ, i64_w, i32_w]; rfl
            refine pure_ (i := 9) (N := some 62) (v := ?_) (a' := ?_) #[true, true, true, true, true, true, true, true, true, true, false] rfl rfl (any_of HT_.out (by kernel_rfl)) (fun _ _ _ h => h) (Or.inl ⟨by rfl, ?_⟩) ?_ ?_
            rotate_left
            ·intro w'; go_simp; with_reducible rfl
            rotate_left
            ·simp only [Act.put, List.setIfInBounds_toArray, List.set_cons_zero, List.set_cons_succ, i64_w, i32_w]; rfl
            refine last_ (i := 10) (N := none) #[true, true, true, true, true, true, true, true, true, true, true] rfl rfl (one_of HT_.out (by kernel_rfl)) (by decide) (fun K hK => ?_)
            have hs244 : w243.cell? ⟨gb695, 0, none⟩ = some (.int .i64 t674) := (blk_cell BK695.out 0).trans rfl
            have hfs244 := blk_frozen BK695.out 0
            have hns244_0 := NB679_695.out
            have hns244_1 := NB680_695.out
            have hns244_2 := NB681_695.out
            have hns244_3 := NB688_695.out
            have hms244_0 := NB695_679.out
            have hms244_1 := NB695_680.out
            have hms244_2 := NB695_681.out
            have hms244_3 := NB695_688.out
            refine skip_ (w1 := ?_) (by rfl) rfl ?_ ?_
            rotate_left
            ·go_simp
             rfl
            refine hK.out _ _ ?_
            clear hK K
            refine done_ (done_of HT_.out (by kernel_rfl)) ?_
            have hnb245 := NB679_680.out
            have hnc245 := NB680_679.out
            have hnb246 := NB679_681.out
            have hnc246 := NB681_679.out
            have hnb247 := NB679_688.out
            have hnc247 := NB688_679.out
            have hnb248 := NB679_695.out
            have hnc248 := NB695_679.out
            obtain ⟨hcz249_0, hcz249_1, hcz249_2, hcz249_3, hcz249_4⟩ := bc5 BK679.out
            obtain ⟨hfz249_0, hfz249_1, hfz249_2, hfz249_3, hfz249_4⟩ := bf5 BK679.out
            have hnb250 := NB680_681.out
            have hnc250 := NB681_680.out
            have hnb251 := NB680_688.out
            have hnc251 := NB688_680.out
            have hnb252 := NB680_695.out
            have hnc252 := NB695_680.out
            obtain ⟨hcz253_0, hcz253_1⟩ := bc2 BK680.out
            obtain ⟨hfz253_0, hfz253_1⟩ := bf2 BK680.out
            have hnb254 := NB695_681.out
            have hnc254 := NB681_695.out
            have hnb255 := NB695_688.out
            have hnc255 := NB688_695.out
            obtain ⟨hcz256_0, hcz256_1, hcz256_2, hcz256_3, hcz256_4⟩ := bc5 BK695.out
            obtain ⟨hfz256_0, hfz256_1, hfz256_2, hfz256_3, hfz256_4⟩ := bf5 BK695.out
            try go_wp2_with (first | ((with_reducible refine gate_callee (f := 21) rfl ?_); refine goesL_ (some 86) rfl rfl Try.func21 (by kernel_rfl) rfl #[.agg #[.int .i64 t667, .int .i64 t668, .int .i64 t669, .int .i64 t670, .int .i64 t671], .agg #[.int .i64 t672, .int .i64 t673], .agg #[.int .i64 (wrap64 (t674 - (Int.tmod t713 (wrap64 (t674 + 1))))), .int .i64 t675, .int .i64 t676, .int .i64 t677, .bool t678]] rfl (by (try simp only [List.map_toArray, List.map_cons, List.map_nil]); first | done | rfl | (simp only [List.length_drop, List.length_take]; rfl)) ?_; (with_reducible refine (impl_Tick.calls kj7 t667 t668 t669 t670 t671 t672 t673 (wrap64 (t674 - (Int.tmod t713 (wrap64 (t674 + 1))))) t675 t676 t677 t678 false t715 t716 t717 t718 t719 _ A216.out).mono ?_); rintro e w257 ⟨rfl, hb⟩; refine ⟨_, rfl, ?_⟩; have n0_ := MK (blk_below (g := gb679) (o := .cells #[.int .i64 t667, .int .i64 t668, .int .i64 t669, .int .i64 t670, .int .i64 t671] 24 (0, 0)) (by (with_reducible repeat (first | refine bN ?_ _ | refine bD ?_ | refine bA ?_ _)); refine blk_far ?_ NB679_695.out _; (with_reducible repeat (first | refine bN ?_ _ | refine bD ?_ | refine bA ?_ _)); exact BK679.out) hb); have n1_ := MK (blk_below (g := gb680) (o := .cells #[.int .i64 t672, .int .i64 t673] 31 (0, 0)) (by (with_reducible repeat (first | refine bN ?_ _ | refine bD ?_ | refine bA ?_ _)); refine blk_far ?_ NB680_695.out _; (with_reducible repeat (first | refine bN ?_ _ | refine bD ?_ | refine bA ?_ _)); exact BK680.out) hb); have n2_ := MK (blk_below (g := gb681) (o := .cells #[.int .i64 t674, .int .i64 t675, .int .i64 t676, .int .i64 t677, .bool t678] 44 (0, 0)) (by (with_reducible repeat (first | refine bN ?_ _ | refine bD ?_ | refine bA ?_ _)); refine blk_far ?_ NB681_695.out _; (with_reducible repeat (first | refine bN ?_ _ | refine bD ?_ | refine bA ?_ _)); exact BK681.out) hb); have n3_ := MK (blk_below (g := gb688) (o := .cells #[.bool t682, .int .i64 t683, .int .i64 t684, .int .i64 t685, .bool t686, .bool t687] 33 (0, 0)) (by (with_reducible repeat (first | refine bN ?_ _ | refine bD ?_ | refine bA ?_ _)); refine blk_far ?_ NB688_695.out _; (with_reducible repeat (first | refine bN ?_ _ | refine bD ?_ | refine bA ?_ _)); exact BK688.out) hb); have n4_ := MK (blk_below (g := gb695) (o := .cells #[.int .i64 (wrap64 (t674 - (Int.tmod t713 (wrap64 (t674 + 1))))), .int .i64 t675, .int .i64 t676, .int .i64 t677, .bool t678] 44 (0, 0)) (by (with_reducible repeat (first | refine bN ?_ _ | refine bD ?_ | refine bA ?_ _)); refine blk_put (cs := #[.int .i64 t674, .int .i64 t675, .int .i64 t676, .int .i64 t677, .bool t678]) ?_ 0 _ rfl; (with_reducible repeat (first | refine bN ?_ _ | refine bD ?_ | refine bA ?_ _)); exact BK695.out) hb); have n5_ := MK (below_step (by repeat (first | (with_reducible first | exact HB.out | apply lA | apply lN | apply lD | refine lS ?_ GE679.out | refine lS ?_ GE680.out | refine lS ?_ GE681.out | refine lS ?_ GE688.out | refine lS ?_ GE695.out) | exact HB.out)) hb); clear BK679; clear BK680; clear BK681; clear BK688; clear BK695; clear HB; have BK679 := n0_; have BK680 := n1_; have BK681 := n2_; have BK688 := n3_; have BK695 := n4_; have HB := n5_; clear n0_ n1_ n2_ n3_ n4_ n5_; (try clear hb); (try clear hb2); (try clear hk); (try clear hi)) | ((with_reducible refine gate_dst (N := 10) rfl ?_); (try (refine gate_guard (by rfl) ?_; dsimp only)); refine box_event ?hg (N := 10) ?hd (cs := #[.bool false, .int .i64 0, .int .i64 0, .int .i64 0, .bool false, .bool false]) (t := 33) ?hr ?_; (case hd => rfl); (case hg => rfl); (case hr => first | (go_simp; done) | (go_simp; rfl)); intro gb720 hg w258 hbox hb; have n0_ := MK (blk_below (by (with_reducible repeat (first | refine bN ?_ _ | refine bD ?_ | refine bA ?_ _)); exact BK679.out) hb); have n1_ := MK (blk_below (by (with_reducible repeat (first | refine bN ?_ _ | refine bD ?_ | refine bA ?_ _)); exact BK680.out) hb); have n2_ := MK (blk_below (by (with_reducible repeat (first | refine bN ?_ _ | refine bD ?_ | refine bA ?_ _)); exact BK681.out) hb); have n3_ := MK (blk_below (by (with_reducible repeat (first | refine bN ?_ _ | refine bD ?_ | refine bA ?_ _)); exact BK688.out) hb); have n4_ := MK (blk_below (by (with_reducible repeat (first | refine bN ?_ _ | refine bD ?_ | refine bA ?_ _)); exact BK695.out) hb); have n5_ := MK (below_step (by repeat (first | (with_reducible first | exact HB.out | apply lA | apply lN | apply lD | refine lS ?_ GE679.out | refine lS ?_ GE680.out | refine lS ?_ GE681.out | refine lS ?_ GE688.out | refine lS ?_ GE695.out) | exact HB.out)) hb); have n6_ := MK (hbox); have n7_ := MK ((by rw [hg]; exact (below_size (by repeat (first | (with_reducible first | exact HB.out | apply lA | apply lN | apply lD | refine lS ?_ GE679.out | refine lS ?_ GE680.out | refine lS ?_ GE681.out | refine lS ?_ GE688.out | refine lS ?_ GE695.out) | exact HB.out))) : w.heap.size ≤ gb720)); have n8_ := MK ((by rw [hg]; exact (below_size (by repeat (first | (with_reducible first | exact HB.out | apply lA | apply lN | apply lD | refine lS ?_ GE679.out | refine lS ?_ GE680.out | refine lS ?_ GE681.out | refine lS ?_ GE688.out | refine lS ?_ GE695.out) | exact HB.out))) : w.heap.size ≤ gb720)); have n9_ := MK ((by rw [hg]; exact Nat.ne_of_lt (blk_lt (by (with_reducible repeat (first | refine bN ?_ _ | refine bD ?_ | refine bA ?_ _)); exact BK679.out)) : gb679 ≠ gb720)); have n10_ := MK ((by rw [hg]; exact Nat.ne_of_gt (blk_lt (by (with_reducible repeat (first | refine bN ?_ _ | refine bD ?_ | refine bA ?_ _)); exact BK679.out)) : gb720 ≠ gb679)); have n11_ := MK ((by rw [hg]; exact Nat.ne_of_lt (blk_lt (by (with_reducible repeat (first | refine bN ?_ _ | refine bD ?_ | refine bA ?_ _)); exact BK680.out)) : gb680 ≠ gb720)); have n12_ := MK ((by rw [hg]; exact Nat.ne_of_gt (blk_lt (by (with_reducible repeat (first | refine bN ?_ _ | refine bD ?_ | refine bA ?_ _)); exact BK680.out)) : gb720 ≠ gb680)); have n13_ := MK ((by rw [hg]; exact Nat.ne_of_lt (blk_lt (by (with_reducible repeat (first | refine bN ?_ _ | refine bD ?_ | refine bA ?_ _)); exact BK681.out)) : gb681 ≠ gb720)); have n14_ := MK ((by rw [hg]; exact Nat.ne_of_gt (blk_lt (by (with_reducible repeat (first | refine bN ?_ _ | refine bD ?_ | refine bA ?_ _)); exact BK681.out)) : gb720 ≠ gb681)); have n15_ := MK ((by rw [hg]; exact Nat.ne_of_lt (blk_lt (by (with_reducible repeat (first | refine bN ?_ _ | refine bD ?_ | refine bA ?_ _)); exact BK688.out)) : gb688 ≠ gb720)); have n16_ := MK ((by rw [hg]; exact Nat.ne_of_gt (blk_lt (by (with_reducible repeat (first | refine bN ?_ _ | refine bD ?_ | refine bA ?_ _)); exact BK688.out)) : gb720 ≠ gb688)); have n17_ := MK ((by rw [hg]; exact Nat.ne_of_lt (blk_lt (by (with_reducible repeat (first | refine bN ?_ _ | refine bD ?_ | refine bA ?_ _)); exact BK695.out)) : gb695 ≠ gb720)); have n18_ := MK ((by rw [hg]; exact Nat.ne_of_gt (blk_lt (by (with_reducible repeat (first | refine bN ?_ _ | refine bD ?_ | refine bA ?_ _)); exact BK695.out)) : gb720 ≠ gb695)); clear BK679; clear BK680; clear BK681; clear BK688; clear BK695; clear HB; have BK679 := n0_; have BK680 := n1_; have BK681 := n2_; have BK688 := n3_; have BK695 := n4_; have HB := n5_; have BK720 := n6_; have GW720 := n7_; have GE720 := n8_; have NB679_720 := n9_; have NB720_679 := n10_; have NB680_720 := n11_; have NB720_680 := n12_; have NB681_720 := n13_; have NB720_681 := n14_; have NB688_720 := n15_; have NB720_688 := n16_; have NB695_720 := n17_; have NB720_695 := n18_; clear n0_ n1_ n2_ n3_ n4_ n5_ n6_ n7_ n8_ n9_ n10_ n11_ n12_ n13_ n14_ n15_ n16_ n17_ n18_; clear hb hbox hg; have hnb259 := NB720_679.out; have hnc259 := NB679_720.out; have hnb260 := NB720_680.out; have hnc260 := NB680_720.out; have hnb261 := NB720_681.out; have hnc261 := NB681_720.out; have hnb262 := NB720_688.out; have hnc262 := NB688_720.out; have hnb263 := NB720_695.out; have hnc263 := NB695_720.out; obtain ⟨hcz264_0, hcz264_1, hcz264_2, hcz264_3, hcz264_4, hcz264_5⟩ := bc6 BK720.out; obtain ⟨hfz264_0, hfz264_1, hfz264_2, hfz264_3, hfz264_4, hfz264_5⟩ := bf6 BK720.out; obtain ⟨hcz265_0, hcz265_1, hcz265_2, hcz265_3, hcz265_4⟩ := bc5 BK695.out; obtain ⟨hfz265_0, hfz265_1, hfz265_2, hfz265_3, hfz265_4⟩ := bf5 BK695.out))
            go_ret
            exact ⟨by first | rfl | (simp [errW_none, errW_some] <;> rfl) | (simp [*, errW_none, errW_some] <;> rfl), by repeat (first | (with_reducible first | exact HB.out | apply lA | apply lN | apply lD | refine lS ?_ GE679.out | refine lS ?_ GE680.out | refine lS ?_ GE681.out | refine lS ?_ GE688.out | refine lS ?_ GE695.out | refine lS ?_ GE720.out) | exact HB.out)⟩
           ·rw [if_neg c241] at H
            have c241b0 : decide (100000000 < t676) = false := decide_eq_false c241
            clear c241
            obtain rfl := Option.some.inj H
            try go_wp2
            have n0_ : Aside0 ((((((w55.setCell ⟨gb695, 0, none⟩ (.int .i64 t674)).setCell ⟨gb695, 1, none⟩ (.int .i64 t675)).setCell ⟨gb695, 2, none⟩ (.int .i64 t676)).setCell ⟨gb695, 3, none⟩ (.int .i64 t677)).setCell ⟨gb695, 4, none⟩ (.bool t678)).heap[gb679]? = some (.cells #[.int .i64 t667, .int .i64 t668, .int .i64 t669, .int .i64 t670, .int .i64 t671] 24 (0, 0))) := ⟨by refine blk_far ?_ NB679_695.out _; refine blk_far ?_ NB679_695.out _; refine blk_far ?_ NB679_695.out _; refine blk_far ?_ NB679_695.out _; refine blk_far ?_ NB679_695.out _; (with_reducible repeat (first | refine bN ?_ _ | refine bD ?_ | refine bA ?_ _)); exact BK679.out⟩
            have n1_ : Aside0 ((((((w55.setCell ⟨gb695, 0, none⟩ (.int .i64 t674)).setCell ⟨gb695, 1, none⟩ (.int .i64 t675)).setCell ⟨gb695, 2, none⟩ (.int .i64 t676)).setCell ⟨gb695, 3, none⟩ (.int .i64 t677)).setCell ⟨gb695, 4, none⟩ (.bool t678)).heap[gb680]? = some (.cells #[.int .i64 t672, .int .i64 t673] 31 (0, 0))) := ⟨by refine blk_far ?_ NB680_695.out _; refine blk_far ?_ NB680_695.out _; refine blk_far ?_ NB680_695.out _; refine blk_far ?_ NB680_695.out _; refine blk_far ?_ NB680_695.out _; (with_reducible repeat (first | refine bN ?_ _ | refine bD ?_ | refine bA ?_ _)); exact BK680.out⟩
            have n2_ : Aside0 ((((((w55.setCell ⟨gb695, 0, none⟩ (.int .i64 t674)).setCell ⟨gb695, 1, none⟩ (.int .i64 t675)).setCell ⟨gb695, 2, none⟩ (.int .i64 t676)).setCell ⟨gb695, 3, none⟩ (.int .i64 t677)).setCell ⟨gb695, 4, none⟩ (.bool t678)).heap[gb681]? = some (.cells #[.int .i64 t674, .int .i64 t675, .int .i64 t676, .int .i64 t677, .bool t678] 44 (0, 0))) := ⟨by refine blk_far ?_ NB681_695.out _; refine blk_far ?_ NB681_695.out _; refine blk_far ?_ NB681_695.out _; refine blk_far ?_ NB681_695.out _; refine blk_far ?_ NB681_695.out _; (with_reducible repeat (first | refine bN ?_ _ | refine bD ?_ | refine bA ?_ _)); exact BK681.out⟩
            have n3_ : Aside0 ((((((w55.setCell ⟨gb695, 0, none⟩ (.int .i64 t674)).setCell ⟨gb695, 1, none⟩ (.int .i64 t675)).setCell ⟨gb695, 2, none⟩ (.int .i64 t676)).setCell ⟨gb695, 3, none⟩ (.int .i64 t677)).setCell ⟨gb695, 4, none⟩ (.bool t678)).heap[gb688]? = some (.cells #[.bool t682, .int .i64 t683, .int .i64 t684, .int .i64 t685, .bool t686, .bool t687] 33 (0, 0))) := ⟨by refine blk_far ?_ NB688_695.out _; refine blk_far ?_ NB688_695.out _; refine blk_far ?_ NB688_695.out _; refine blk_far ?_ NB688_695.out _; refine blk_far ?_ NB688_695.out _; (with_reducible repeat (first | refine bN ?_ _ | refine bD ?_ | refine bA ?_ _)); exact BK688.out⟩
            have n4_ : Aside0 ((((((w55.setCell ⟨gb695, 0, none⟩ (.int .i64 t674)).setCell ⟨gb695, 1, none⟩ (.int .i64 t675)).setCell ⟨gb695, 2, none⟩ (.int .i64 t676)).setCell ⟨gb695, 3, none⟩ (.int .i64 t677)).setCell ⟨gb695, 4, none⟩ (.bool t678)).heap[gb695]? = some (.cells #[.int .i64 t674, .int .i64 t675, .int .i64 t676, .int .i64 t677, .bool t678] 44 (0, 0))) := ⟨by refine blk_put (cs := #[.int .i64 t674, .int .i64 t675, .int .i64 t676, .int .i64 t677, .bool false]) ?_ 4 _ rfl; refine blk_put (cs := #[.int .i64 t674, .int .i64 t675, .int .i64 t676, .int .i64 0, .bool false]) ?_ 3 _ rfl; refine blk_put (cs := #[.int .i64 t674, .int .i64 t675, .int .i64 0, .int .i64 0, .bool false]) ?_ 2 _ rfl; refine blk_put (cs := #[.int .i64 t674, .int .i64 0, .int .i64 0, .int .i64 0, .bool false]) ?_ 1 _ rfl; refine blk_put (cs := #[.int .i64 0, .int .i64 0, .int .i64 0, .int .i64 0, .bool false]) ?_ 0 _ rfl; (with_reducible repeat (first | refine bN ?_ _ | refine bD ?_ | refine bA ?_ _)); exact BK695.out⟩
            have n5_ : Aside0 (Below w.heap.size w (((((w55.setCell ⟨gb695, 0, none⟩ (.int .i64 t674)).setCell ⟨gb695, 1, none⟩ (.int .i64 t675)).setCell ⟨gb695, 2, none⟩ (.int .i64 t676)).setCell ⟨gb695, 3, none⟩ (.int .i64 t677)).setCell ⟨gb695, 4, none⟩ (.bool t678))) := ⟨by repeat (first | (with_reducible first | exact HB.out | apply lA | apply lN | apply lD | refine lS ?_ GE679.out | refine lS ?_ GE680.out | refine lS ?_ GE681.out | refine lS ?_ GE688.out | refine lS ?_ GE695.out) | exact HB.out)⟩
            (try clear BK679)
            (try clear BK680)
            (try clear BK681)
            (try clear BK688)
            (try clear BK695)
            (try clear HB)
            generalize (((((w55.setCell ⟨gb695, 0, none⟩ (.int .i64 t674)).setCell ⟨gb695, 1, none⟩ (.int .i64 t675)).setCell ⟨gb695, 2, none⟩ (.int .i64 t676)).setCell ⟨gb695, 3, none⟩ (.int .i64 t677)).setCell ⟨gb695, 4, none⟩ (.bool t678)) = w266 at n0_ n1_ n2_ n3_ n4_ n5_ ⊢
            have n0_ := MK (bN n0_.out nd)
            have n1_ := MK (bN n1_.out nd)
            have n2_ := MK (bN n2_.out nd)
            have n3_ := MK (bN n3_.out nd)
            have n4_ := MK (bN n4_.out nd)
            have n5_ := MK (lN n5_.out nd)
            generalize w266.drewN nd = w266 at n0_ n1_ n2_ n3_ n4_ n5_ ⊢
            have BK679 := n0_
            have BK680 := n1_
            have BK681 := n2_
            have BK688 := n3_
            have BK695 := n4_
            have HB := n5_
            clear n0_ n1_ n2_ n3_ n4_ n5_
            have n0_ := MK (bD BK679.out)
            have n1_ := MK (bD BK680.out)
            have n2_ := MK (bD BK681.out)
            have n3_ := MK (bD BK688.out)
            have n4_ := MK (bD BK695.out)
            have n5_ := MK (lD HB.out)
            clear BK679
            clear BK680
            clear BK681
            clear BK688
            clear BK695
            clear HB
            have BK679 := n0_
            have BK680 := n1_
            have BK681 := n2_
            have BK688 := n3_
            have BK695 := n4_
            have HB := n5_
            clear n0_ n1_ n2_ n3_ n4_ n5_
            refine start_ (n := 11) (S := fun w' => w'.cell? ⟨gb695, 0, none⟩ = some (.int .i64 t674) ∧ w'.cell? ⟨gb695, 1, none⟩ = some (.int .i64 t675) ∧ w'.cell? ⟨gb695, 2, none⟩ = some (.int .i64 t676) ∧ w'.cell? ⟨gb695, 3, none⟩ = some (.int .i64 t677) ∧ w'.cell? ⟨gb695, 4, none⟩ = some (.bool t678) ∧ w'.cell? ⟨gb681, 0, none⟩ = some (.int .i64 t674) ∧ w'.cell? ⟨gb681, 1, none⟩ = some (.int .i64 t675) ∧ w'.cell? ⟨gb681, 2, none⟩ = some (.int .i64 t676) ∧ w'.cell? ⟨gb681, 3, none⟩ = some (.int .i64 t677) ∧ w'.cell? ⟨gb681, 4, none⟩ = some (.bool t678)) (ds := [10]) #[false, false, false, false, false, false, false, false, false, false, false] (by kernel_rfl) rfl rfl ⟨(blk_cell BK695.out 0).trans rfl, (blk_cell BK695.out 1).trans rfl, (blk_cell BK695.out 2).trans rfl, (blk_cell BK695.out 3).trans rfl, (blk_cell BK695.out 4).trans rfl, (blk_cell BK681.out 0).trans rfl, (blk_cell BK681.out 1).trans rfl, (blk_cell BK681.out 2).trans rfl, (blk_cell BK681.out 3).trans rfl, (blk_cell BK681.out 4).trans rfl⟩ (fun hHeld => ?_); refine with_tabW laws_FnLonger.tab9 laws_FnLonger.bits9 (fun HT_ HW_ => ?_)
            generalize w266.drew = w267 at BK679 BK680 BK681 BK688 BK695 HB hHeld ⊢
            refine pure_ (i := 0) (N := some 53) (v := ?_) (a' := ?_) #[true, false, false, false, false, false, false, false, false, false, false] rfl rfl (any_of HT_.out (by kernel_rfl)) (fun _ _ _ h => h) (Or.inl ⟨by rfl, ?_⟩) ?_ ?_
            rotate_left
            ·intro w'; go_simp; with_reducible rfl
            rotate_left
            ·simp only [Act.put, List.setIfInBounds_toArray, List.set_cons_zero, List.set_cons_succ, i64_w, i32_w]; rfl
            refine pure_ (i := 2) (N := some 55) (v := ?_) (a' := ?_) #[true, false, true, false, false, false, false, false, false, false, false] rfl rfl (any_of HT_.out (by kernel_rfl)) (fun _ _ _ h => h) (Or.inl ⟨by rfl, ?_⟩) ?_ ?_
            rotate_left
            ·intro w'; go_simp; with_reducible rfl
            rotate_left
            ·simp only [Act.put, List.setIfInBounds_toArray, List.set_cons_zero, List.set_cons_succ, i64_w, i32_w]; rfl
            refine pure_ (i := 4) (N := some 57) (v := ?_) (a' := ?_) #[true, false, true, false, true, false, false, false, false, false, false] rfl rfl (any_of HT_.out (by kernel_rfl)) (fun _ _ _ h => h) (Or.inl ⟨by rfl, ?_⟩) ?_ ?_
            rotate_left
            ·intro w'; go_simp; with_reducible rfl
            rotate_left
            ·simp only [Act.put, List.setIfInBounds_toArray, List.set_cons_zero, List.set_cons_succ, i64_w, i32_w]; rfl
            refine take_ (i := 1) (N := some 54) (v := ?_) (a' := ?_) #[true, true, true, false, true, false, false, false, false, false, false] rfl rfl (take_ofW HT_.out HW_.out (by kernel_rfl)) (fun _ _ _ h => h) (Or.inl ⟨by rfl, ?_⟩) hHeld ?_ ?_
            rotate_left
            ·rintro w' ⟨s0, s1, s2, s3, s4, s5, s6, s7, s8, s9⟩; go_simp; with_reducible rfl
            rotate_left
            ·simp only [Act.put, List.setIfInBounds_toArray, List.set_cons_zero, List.set_cons_succ, i64_w, i32_w]; rfl
            refine take_ (i := 5) (N := some 58) (v := ?_) (a' := ?_) #[true, true, true, false, true, true, false, false, false, false, false] rfl rfl (take_ofW HT_.out HW_.out (by kernel_rfl)) (fun _ _ _ h => h) (Or.inl ⟨by rfl, ?_⟩) hHeld ?_ ?_
            rotate_left
            ·rintro w' ⟨s0, s1, s2, s3, s4, s5, s6, s7, s8, s9⟩; go_simp; with_reducible rfl
            rotate_left
            ·simp only [Act.put, List.setIfInBounds_toArray, List.set_cons_zero, List.set_cons_succ, i64_w, i32_w]; rfl
            refine pure_ (i := 6) (N := some 59) (v := ?_) (a' := ?_) #[true, true, true, false, true, true, true, false, false, false, false] rfl rfl (any_of HT_.out (by kernel_rfl)) (fun _ _ _ h => h) (Or.inl ⟨by rfl, ?_⟩) ?_ ?_
            rotate_left
            ·intro w'; go_simp; with_reducible rfl
            rotate_left
            ·simp only [Act.put, List.setIfInBounds_toArray, List.set_cons_zero, List.set_cons_succ, i64_w, i32_w]; rfl
            refine one_ (i := 3) (N := some 56) #[true, true, true, true, true, true, true, false, false, false, false] rfl rfl (one_of HT_.out (by kernel_rfl)) (by decide) (fun K hK => ?_)
            refine goes_ Try.func11 (by kernel_rfl) rfl #[.slice A1 l1.length c1, .int .i64 1] (by rfl) rfl rfl (by (try simp only [List.map_toArray, List.map_cons, List.map_nil]); first | done | rfl | (simp only [List.length_drop, List.length_take]; rfl)) ?_
            with_reducible refine (laws_wByte.calls _ _ l1 1 t713 _ ?side1 ?side2 A214.out).mono ?_
            (case side1 => repeat (first | exact (Kd.C_below HR1.out HB.out) | (with_reducible refine Kd.C_alloc ?_ _) | (with_reducible refine Kd.C_drewN ?_ _) | (with_reducible refine Kd.C_drew ?_)))
            (case side2 => exact HC1.out)
            rintro e w' ⟨rfl, ⟨nd, rfl⟩⟩
            refine ⟨_, rfl, ?_⟩
            refine hK.out _ _ ⟨(blk_cell BK695.out 0).trans rfl, (blk_cell BK695.out 1).trans rfl, (blk_cell BK695.out 2).trans rfl, (blk_cell BK695.out 3).trans rfl, (blk_cell BK695.out 4).trans rfl, (blk_cell BK681.out 0).trans rfl, (blk_cell BK681.out 1).trans rfl, (blk_cell BK681.out 2).trans rfl, (blk_cell BK681.out 3).trans rfl, (blk_cell BK681.out 4).trans rfl⟩ (fun hHeld => ?_)
            clear hK K
            refine norm_ (a' := ?_) ?_ ?_
            rotate_left
            ·show Act.put _ (some 56) _ = _; simp only [Act.put, List.setIfInBounds_toArray, List.set_cons_zero, List.set_cons_succ, i64_w, i32_w]; rfl
            refine pure_ (i := 7) (N := some 60) (v := ?_) (a' := ?_) #[true, true, true, true, true, true, true, true, false, false, false] rfl rfl (any_of HT_.out (by kernel_rfl)) (fun _ _ _ h => h) (Or.inl ⟨by rfl, ?_⟩) ?_ ?_
            rotate_left
            ·intro w'; go_simp; with_reducible rfl
            rotate_left
            ·simp only [Act.put, List.setIfInBounds_toArray, List.set_cons_zero, List.set_cons_succ, i64_w, i32_w]; rfl
            refine pure_ (i := 8) (N := some 61) (v := ?_) (a' := ?_) #[true, true, true, true, true, true, true, true, true, false, false] rfl rfl (any_of HT_.out (by kernel_rfl)) (fun _ _ _ h => h) (Or.inl ⟨by rfl, ?_⟩) ?_ ?_
            rotate_left
            ·intro w'; go_simp; with_reducible rfl
            rotate_left
            ·simp only [Act.put, List.setIfInBounds_toArray, List.set_cons_zero, List.set_cons_succ, i64_w, i32_w]; rfl
            refine pure_ (i := 9) (N := some 62) (v := ?_) (a' := ?_) #[true, true, true, true, true, true, true, true, true, true, false] rfl rfl (any_of HT_.out (by kernel_rfl)) (fun _ _ _ h => h) (Or.inl ⟨by rfl, ?_⟩) ?_ ?_
            rotate_left
            ·intro w'; go_simp; with_reducible rfl
            rotate_left
            ·simp only [Act.put, List.setIfInBounds_toArray, List.set_cons_zero, List.set_cons_succ, i64_w, i32_w]; rfl
            refine last_ (i := 10) (N := none) #[true, true, true, true, true, true, true, true, true, true, true] rfl rfl (one_of HT_.out (by kernel_rfl)) (by decide) (fun K hK => ?_)
            have hs268 : w267.cell? ⟨gb695, 0, none⟩ = some (.int .i64 t674) := (blk_cell BK695.out 0).trans rfl
            have hfs268 := blk_frozen BK695.out 0
            have hns268_0 := NB679_695.out
            have hns268_1 := NB680_695.out
            have hns268_2 := NB681_695.out
            have hns268_3 := NB688_695.out
            have hms268_0 := NB695_679.out
            have hms268_1 := NB695_680.out
            have hms268_2 := NB695_681.out
            have hms268_3 := NB695_688.out
            refine skip_ (w1 := ?_) (by rfl) rfl ?_ ?_
            rotate_left
            ·go_simp
             rfl
            refine hK.out _ _ ?_
            clear hK K
            refine done_ (done_of HT_.out (by kernel_rfl)) ?_
            have hnb269 := NB679_680.out
            have hnc269 := NB680_679.out
            have hnb270 := NB679_681.out
            have hnc270 := NB681_679.out
            have hnb271 := NB679_688.out
            have hnc271 := NB688_679.out
            have hnb272 := NB679_695.out
            have hnc272 := NB695_679.out
            obtain ⟨hcz273_0, hcz273_1, hcz273_2, hcz273_3, hcz273_4⟩ := bc5 BK679.out
            obtain ⟨hfz273_0, hfz273_1, hfz273_2, hfz273_3, hfz273_4⟩ := bf5 BK679.out
            have hnb274 := NB680_681.out
            have hnc274 := NB681_680.out
            have hnb275 := NB680_688.out
            have hnc275 := NB688_680.out
            have hnb276 := NB680_695.out
            have hnc276 := NB695_680.out
            obtain ⟨hcz277_0, hcz277_1⟩ := bc2 BK680.out
            obtain ⟨hfz277_0, hfz277_1⟩ := bf2 BK680.out
            have hnb278 := NB695_681.out
            have hnc278 := NB681_695.out
            have hnb279 := NB695_688.out
            have hnc279 := NB688_695.out
            obtain ⟨hcz280_0, hcz280_1, hcz280_2, hcz280_3, hcz280_4⟩ := bc5 BK695.out
            obtain ⟨hfz280_0, hfz280_1, hfz280_2, hfz280_3, hfz280_4⟩ := bf5 BK695.out
            try go_wp2_with (first | ((with_reducible refine gate_callee (f := 21) rfl ?_); refine goesL_ (some 86) rfl rfl Try.func21 (by kernel_rfl) rfl #[.agg #[.int .i64 t667, .int .i64 t668, .int .i64 t669, .int .i64 t670, .int .i64 t671], .agg #[.int .i64 t672, .int .i64 t673], .agg #[.int .i64 (wrap64 (t674 - (Int.tmod t713 (wrap64 (t674 + 1))))), .int .i64 t675, .int .i64 t676, .int .i64 t677, .bool t678]] rfl (by (try simp only [List.map_toArray, List.map_cons, List.map_nil]); first | done | rfl | (simp only [List.length_drop, List.length_take]; rfl)) ?_; (with_reducible refine (impl_Tick.calls kj7 t667 t668 t669 t670 t671 t672 t673 (wrap64 (t674 - (Int.tmod t713 (wrap64 (t674 + 1))))) t675 t676 t677 t678 false t715 t716 t717 t718 t719 _ A216.out).mono ?_); rintro e w281 ⟨rfl, hb⟩; refine ⟨_, rfl, ?_⟩; have n0_ := MK (blk_below (g := gb679) (o := .cells #[.int .i64 t667, .int .i64 t668, .int .i64 t669, .int .i64 t670, .int .i64 t671] 24 (0, 0)) (by (with_reducible repeat (first | refine bN ?_ _ | refine bD ?_ | refine bA ?_ _)); refine blk_far ?_ NB679_695.out _; (with_reducible repeat (first | refine bN ?_ _ | refine bD ?_ | refine bA ?_ _)); exact BK679.out) hb); have n1_ := MK (blk_below (g := gb680) (o := .cells #[.int .i64 t672, .int .i64 t673] 31 (0, 0)) (by (with_reducible repeat (first | refine bN ?_ _ | refine bD ?_ | refine bA ?_ _)); refine blk_far ?_ NB680_695.out _; (with_reducible repeat (first | refine bN ?_ _ | refine bD ?_ | refine bA ?_ _)); exact BK680.out) hb); have n2_ := MK (blk_below (g := gb681) (o := .cells #[.int .i64 t674, .int .i64 t675, .int .i64 t676, .int .i64 t677, .bool t678] 44 (0, 0)) (by (with_reducible repeat (first | refine bN ?_ _ | refine bD ?_ | refine bA ?_ _)); refine blk_far ?_ NB681_695.out _; (with_reducible repeat (first | refine bN ?_ _ | refine bD ?_ | refine bA ?_ _)); exact BK681.out) hb); have n3_ := MK (blk_below (g := gb688) (o := .cells #[.bool t682, .int .i64 t683, .int .i64 t684, .int .i64 t685, .bool t686, .bool t687] 33 (0, 0)) (by (with_reducible repeat (first | refine bN ?_ _ | refine bD ?_ | refine bA ?_ _)); refine blk_far ?_ NB688_695.out _; (with_reducible repeat (first | refine bN ?_ _ | refine bD ?_ | refine bA ?_ _)); exact BK688.out) hb); have n4_ := MK (blk_below (g := gb695) (o := .cells #[.int .i64 (wrap64 (t674 - (Int.tmod t713 (wrap64 (t674 + 1))))), .int .i64 t675, .int .i64 t676, .int .i64 t677, .bool t678] 44 (0, 0)) (by (with_reducible repeat (first | refine bN ?_ _ | refine bD ?_ | refine bA ?_ _)); refine blk_put (cs := #[.int .i64 t674, .int .i64 t675, .int .i64 t676, .int .i64 t677, .bool t678]) ?_ 0 _ rfl; (with_reducible repeat (first | refine bN ?_ _ | refine bD ?_ | refine bA ?_ _)); exact BK695.out) hb); have n5_ := MK (below_step (by repeat (first | (with_reducible first | exact HB.out | apply lA | apply lN | apply lD | refine lS ?_ GE679.out | refine lS ?_ GE680.out | refine lS ?_ GE681.out | refine lS ?_ GE688.out | refine lS ?_ GE695.out) | exact HB.out)) hb); clear BK679; clear BK680; clear BK681; clear BK688; clear BK695; clear HB; have BK679 := n0_; have BK680 := n1_; have BK681 := n2_; have BK688 := n3_; have BK695 := n4_; have HB := n5_; clear n0_ n1_ n2_ n3_ n4_ n5_; (try clear hb); (try clear hb2); (try clear hk); (try clear hi)) | ((with_reducible refine gate_dst (N := 10) rfl ?_); (try (refine gate_guard (by rfl) ?_; dsimp only)); refine box_event ?hg (N := 10) ?hd (cs := #[.bool false, .int .i64 0, .int .i64 0, .int .i64 0, .bool false, .bool false]) (t := 33) ?hr ?_; (case hd => rfl); (case hg => rfl); (case hr => first | (go_simp; done) | (go_simp; rfl)); intro gb720 hg w282 hbox hb; have n0_ := MK (blk_below (by (with_reducible repeat (first | refine bN ?_ _ | refine bD ?_ | refine bA ?_ _)); exact BK679.out) hb); have n1_ := MK (blk_below (by (with_reducible repeat (first | refine bN ?_ _ | refine bD ?_ | refine bA ?_ _)); exact BK680.out) hb); have n2_ := MK (blk_below (by (with_reducible repeat (first | refine bN ?_ _ | refine bD ?_ | refine bA ?_ _)); exact BK681.out) hb); have n3_ := MK (blk_below (by (with_reducible repeat (first | refine bN ?_ _ | refine bD ?_ | refine bA ?_ _)); exact BK688.out) hb); have n4_ := MK (blk_below (by (with_reducible repeat (first | refine bN ?_ _ | refine bD ?_ | refine bA ?_ _)); exact BK695.out) hb); have n5_ := MK (below_step (by repeat (first | (with_reducible first | exact HB.out | apply lA | apply lN | apply lD | refine lS ?_ GE679.out | refine lS ?_ GE680.out | refine lS ?_ GE681.out | refine lS ?_ GE688.out | refine lS ?_ GE695.out) | exact HB.out)) hb); have n6_ := MK (hbox); have n7_ := MK ((by rw [hg]; exact (below_size (by repeat (first | (with_reducible first | exact HB.out | apply lA | apply lN | apply lD | refine lS ?_ GE679.out | refine lS ?_ GE680.out | refine lS ?_ GE681.out | refine lS ?_ GE688.out | refine lS ?_ GE695.out) | exact HB.out))) : w.heap.size ≤ gb720)); have n8_ := MK ((by rw [hg]; exact (below_size (by repeat (first | (with_reducible first | exact HB.out | apply lA | apply lN | apply lD | refine lS ?_ GE679.out | refine lS ?_ GE680.out | refine lS ?_ GE681.out | refine lS ?_ GE688.out | refine lS ?_ GE695.out) | exact HB.out))) : w.heap.size ≤ gb720)); have n9_ := MK ((by rw [hg]; exact Nat.ne_of_lt (blk_lt (by (with_reducible repeat (first | refine bN ?_ _ | refine bD ?_ | refine bA ?_ _)); exact BK679.out)) : gb679 ≠ gb720)); have n10_ := MK ((by rw [hg]; exact Nat.ne_of_gt (blk_lt (by (with_reducible repeat (first | refine bN ?_ _ | refine bD ?_ | refine bA ?_ _)); exact BK679.out)) : gb720 ≠ gb679)); have n11_ := MK ((by rw [hg]; exact Nat.ne_of_lt (blk_lt (by (with_reducible repeat (first | refine bN ?_ _ | refine bD ?_ | refine bA ?_ _)); exact BK680.out)) : gb680 ≠ gb720)); have n12_ := MK ((by rw [hg]; exact Nat.ne_of_gt (blk_lt (by (with_reducible repeat (first | refine bN ?_ _ | refine bD ?_ | refine bA ?_ _)); exact BK680.out)) : gb720 ≠ gb680)); have n13_ := MK ((by rw [hg]; exact Nat.ne_of_lt (blk_lt (by (with_reducible repeat (first | refine bN ?_ _ | refine bD ?_ | refine bA ?_ _)); exact BK681.out)) : gb681 ≠ gb720)); have n14_ := MK ((by rw [hg]; exact Nat.ne_of_gt (blk_lt (by (with_reducible repeat (first | refine bN ?_ _ | refine bD ?_ | refine bA ?_ _)); exact BK681.out)) : gb720 ≠ gb681)); have n15_ := MK ((by rw [hg]; exact Nat.ne_of_lt (blk_lt (by (with_reducible repeat (first | refine bN ?_ _ | refine bD ?_ | refine bA ?_ _)); exact BK688.out)) : gb688 ≠ gb720)); have n16_ := MK ((by rw [hg]; exact Nat.ne_of_gt (blk_lt (by (with_reducible repeat (first | refine bN ?_ _ | refine bD ?_ | refine bA ?_ _)); exact BK688.out)) : gb720 ≠ gb688)); have n17_ := MK ((by rw [hg]; exact Nat.ne_of_lt (blk_lt (by (with_reducible repeat (first | refine bN ?_ _ | refine bD ?_ | refine bA ?_ _)); exact BK695.out)) : gb695 ≠ gb720)); have n18_ := MK ((by rw [hg]; exact Nat.ne_of_gt (blk_lt (by (with_reducible repeat (first | refine bN ?_ _ | refine bD ?_ | refine bA ?_ _)); exact BK695.out)) : gb720 ≠ gb695)); clear BK679; clear BK680; clear BK681; clear BK688; clear BK695; clear HB; have BK679 := n0_; have BK680 := n1_; have BK681 := n2_; have BK688 := n3_; have BK695 := n4_; have HB := n5_; have BK720 := n6_; have GW720 := n7_; have GE720 := n8_; have NB679_720 := n9_; have NB720_679 := n10_; have NB680_720 := n11_; have NB720_680 := n12_; have NB681_720 := n13_; have NB720_681 := n14_; have NB688_720 := n15_; have NB720_688 := n16_; have NB695_720 := n17_; have NB720_695 := n18_; clear n0_ n1_ n2_ n3_ n4_ n5_ n6_ n7_ n8_ n9_ n10_ n11_ n12_ n13_ n14_ n15_ n16_ n17_ n18_; clear hb hbox hg; have hnb283 := NB720_679.out; have hnc283 := NB679_720.out; have hnb284 := NB720_680.out; have hnc284 := NB680_720.out; have hnb285 := NB720_681.out; have hnc285 := NB681_720.out; have hnb286 := NB720_688.out; have hnc286 := NB688_720.out; have hnb287 := NB720_695.out; have hnc287 := NB695_720.out; obtain ⟨hcz288_0, hcz288_1, hcz288_2, hcz288_3, hcz288_4, hcz288_5⟩ := bc6 BK720.out; obtain ⟨hfz288_0, hfz288_1, hfz288_2, hfz288_3, hfz288_4, hfz288_5⟩ := bf6 BK720.out; obtain ⟨hcz289_0, hcz289_1, hcz289_2, hcz289_3, hcz289_4⟩ := bc5 BK695.out; obtain ⟨hfz289_0, hfz289_1, hfz289_2, hfz289_3, hfz289_4⟩ := bf5 BK695.out))
            go_ret
            exact ⟨by first | rfl | (simp [errW_none, errW_some] <;> rfl) | (simp [*, errW_none, errW_some] <;> rfl), by repeat (first | (with_reducible first | exact HB.out | apply lA | apply lN | apply lD | refine lS ?_ GE679.out | refine lS ?_ GE680.out | refine lS ?_ GE681.out | refine lS ?_ GE688.out | refine lS ?_ GE695.out | refine lS ?_ GE720.out) | exact HB.out)⟩

/-- THE ONE PURE STATEMENT of laws_FnLonger: yours. -/
def laws_FnLonger.Pure : Prop := ∀ (l0 : List Int) (l1 : List Int), l0.length ≤ maxLen → l0.length * 1 ≤ 140737488351232 → (∀ x ∈ l0, (Lit.int .u8 x).wf = true) → l1.length ≤ maxLen → l1.length * 1 ≤ 140737488351232 → (∀ x ∈ l1, (Lit.int .u8 x).wf = true) → ∃ k, laws_FnLonger.f k l0 l1 = some true
theorem laws_FnLonger.walk (P : laws_FnLonger.Pure) (a0 : Option Addr) (len0 cap0 : Nat) (z0 : List Int) (a1 : Option Addr) (len1 cap1 : Nat) (z1 : List Int) (w : World) (w0 : (a0 = none ∧ len0 = 0 ∧ cap0 = 0 ∧ z0 = []) ∨ ∃ x, a0 = some x ∧ len0 ≤ cap0 ∧ cap0 ≤ maxLen ∧ z0.length = cap0 ∧ (∀ i, i < z0.length → w.cell? (x.add i) = some (.int .u8 (z0.getD i 0))) ∧ ∀ n ∈ z0, (Lit.int .u8 n).wf = true) (y0 : len0 * 1 ≤ 140737488351232) (w1 : (a1 = none ∧ len1 = 0 ∧ cap1 = 0 ∧ z1 = []) ∨ ∃ x, a1 = some x ∧ len1 ≤ cap1 ∧ cap1 ≤ maxLen ∧ z1.length = cap1 ∧ (∀ i, i < z1.length → w.cell? (x.add i) = some (.int .u8 (z1.getD i 0))) ∧ ∀ n ∈ z1, (Lit.int .u8 n).wf = true) (y1 : len1 * 1 ≤ 140737488351232) :
  Calls Try.prog 7 #[.slice a0 len0 cap0, .slice a1 len1 cap1] w fun e w' => e = .returned (.bool true) ∧ Below w.heap.size w w' := by
 obtain ⟨l0, rfl, hr0, hm0, hw0, hc0⟩ := ReadsInt.ofRowC w0
 obtain ⟨l1, rfl, hr1, hm1, hw1, hc1⟩ := ReadsInt.ofRowC w1
 obtain ⟨k, h⟩ := P l0 l1 hm0 y0 hw0 hm1 y1 hw1
 refine (laws_FnLonger.calls k _ _ l0 _ _ l1 true w (Kd.C_of_reads (d := (0 : Int)) (h1 := fun _ => rfl) hr0) hc0 (Kd.C_of_reads (d := (0 : Int)) (h1 := fun _ => rfl) hr1) hc1 h).mono ?_
 rintro e w' ⟨rfl, hd⟩
 exact ⟨rfl, hd⟩

end Go.Proofs.Ytcfhjidddpoijaa.Q
